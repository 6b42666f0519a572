/- Plain laws: what the functions compute, with no program in sight. -/
import Derived.Test.YtnigjppddilpcaaGreatDoorGEPP3
import Derived.Test.YtnigjppddilpcaaGreatDoorGEF0
import Derived.Test.YtnigjppddilpcaaGreatDoorGEF7
import Derived.Test.YtnigjppddilpcaaGreatDoorGEPP2
import Derived.Test.YtnigjppddilpcaaGreatDoorGEF1
import Derived.Test.YtnigjppddilpcaaGreatDoorGEF14
import Derived.Test.YtnigjppddilpcaaGreatDoorGEF16
import Derived.Test.YtnigjppddilpcaaGreatDoorAbsU
import Derived.Test.YtnigjppddilpcaaGreatDoorGEF8
import Derived.Test.YtnigjppddilpcaaGreatDoorGEPP0
import Derived.Test.YtnigjppddilpcaaGreatDoorGEF6
import Derived.Test.YtnigjppddilpcaaGreatDoorGEF4
import Derived.Test.YtnigjppddilpcaaGreatDoorGEF10
import Derived.Test.YtnigjppddilpcaaGreatDoorGEF12
import Derived.Test.YtnigjppddilpcaaGreatDoorGEF5
namespace Go.Proofs.YtnigjppddilpcaaGreatDoor
open Go Abs
set_option linter.unusedSimpArgs false
set_option linter.unusedVariables false
theorem aKL {b:List UInt8}{n:Int} (hb:b.length≤10000000000000) (h:tN n):rN b n=some (b++qT n):=aGk hb h.1 h.2
theorem aKM {b s:List UInt8} (hb:b.length≤10000000000000) (hs:s.length≤10000000000000):qD b s=some (b++uZ s):=by rw [aJY hb hs,uZ,dD]
theorem aRm (v:aF):(cond (decide (v.Kind=(1:Int))) (some (decide (v.Kind=(1:Int)))) (cond (decide (v.Kind=(2:Int))) (some (decide (v.Kind=(2:Int)))) (some (decide (v.Kind=(6:Int))))))=some (decide (v.Kind=1∨v.Kind=2∨v.Kind=6)):=by
 by_cases h1:v.Kind=1
 ·
  simp [h1]
 ·
  by_cases h2:v.Kind=2 <;> simp [h1,h2]
theorem aP7 (v:aF):(cond (decide (v.Kind=(4:Int))) (some (decide (v.Kind=(4:Int)))) (some (decide (v.Kind=(5:Int)))))=some (decide (v.Kind=4∨v.Kind=5)):=by
 by_cases h1:v.Kind=4 <;> simp [h1]
theorem aIv:∀ (n:Nat) (v:aF) (b:List UInt8),hgt v≤n→dS v→fmd true v=true→(b++sQ v).length≤1000000000000→sA n b v=some (b++sQ v)∧aDw n b v=some (b++sQ v):=by
 intro n
 induction n with
 | zero=>intro v b h;have:=nQ v;omega
 | succ n ih =>
  intro v b h hv hf hB
  have hh:=nQ v
  obtain ⟨k0,k1,k2,k3,k4⟩:=(fS v).1 hv
  obtain ⟨l1,l2,l3⟩:=aIA hf
  rw [aIf] at hB ⊢
  rw [sA,aDw,aRm,aP7]
  simp only [aW] at hB
  rw [aFv (by omega) k0,aKL (by omega) k0]
  simp only [aA]
  have hb0:(b++qT v.Kind).length=b.length+(qT v.Kind).length:=by simp
  by_cases h126:v.Kind=1∨v.Kind=2∨v.Kind=6
  ·
   simp only [h126,bC,bS,bQ] at hB ⊢
   rw [aFv (by omega) k1,aKL (by omega) k1]
   simp [Fl.next]
  ·
   simp only [h126,bP,aZ,cD] at hB ⊢
   by_cases h3:v.Kind=3
   ·
    have h3t:=aDB v.Text
    simp only [h3,bC,bS,bQ] at hB hb0 ⊢
    rw [aQl (by omega) (by omega),aKM (by omega) (by omega)]
    simp [Fl.next]
   ·
    simp only [h3,bP,aZ,cD] at hB ⊢
    by_cases h4:v.Kind=4
    ·
     have hok:tN (v.Items.length:Int):=⟨by omega,by have:=k3.1;omega⟩
     simp only [h4,nA,bC,bS,bQ,aW] at hB ⊢
     rw [aFv (by simp only [aW];omega) hok,aKL (by simp only [aW];omega) hok]
     simp only [aA,Fl.next]
     rw [aAi 1000000000000 v.Items sQ _ (by simp only [aW];omega) (fun s i hi hs=>?_) (fun s=>?_),aAi 1000000000000 v.Items sQ _ (by simp only [aW];omega) (fun s i hi hs=>?_) (fun s=>?_)]
     ·
      simp
     ·
      unfold aAt
      rw [dF,aT (by simp only;omega)]
      simp only [h4,Int.reduceEq,bP,aZ,aA]
      rw [iT hi,aA,(ih _ _ (by have:=qC (bZ hi);omega) (k3.2.2 _ (bZ hi)) (l3 _ (bZ hi)) hs).2,aA,pW hi k3.1]
     ·
      unfold aAt
      rw [dF,aQ (by simp only;omega)]
     ·
      unfold pG
      rw [dF,aT (by simp only;omega),iT hi,aA]
      simp only [h4,Int.reduceEq,bP,aZ]
      rw [(ih _ _ (by have:=qC (bZ hi);omega) (k3.2.2 _ (bZ hi)) (l3 _ (bZ hi)) hs).1,aA,pW hi k3.1]
     ·
      unfold pG
      rw [dF,aQ (by simp only;omega)]
    ·
     by_cases h5:v.Kind=5
     ·
      have hok:tN (v.Items.length:Int):=⟨by omega,by have:=k3.1;omega⟩
      have hlen:=l2 h5
      have hz:(v.Items.zip v.Keys).length=v.Items.length:=by simp [hlen]
      simp only [h5,nO,Int.reduceEq,bC,bS,bQ,cD,aW] at hB ⊢
      rw [aFv (by simp only [aW];omega) hok,aKL (by simp only [aW];omega) hok]
      simp only [aA,Fl.next]
      rw [aAi 1000000000000 (v.Items.zip v.Keys) (fun p=>uZ p.2++sQ p.1) _ (by simp only [aW];omega) (fun s i hi hs=>?_) (fun s=>?_),aAi 1000000000000 (v.Items.zip v.Keys) (fun p=>uZ p.2++sQ p.1) _ (by simp only [aW];omega) (fun s i hi hs=>?_) (fun s=>?_)]
      ·
       simp
      ·
       unfold aAt
       rw [hz] at hi
       have hik:i<v.Keys.length:=by omega
       simp only [List.getElem_zip,aW] at hs ⊢
       have:=aDB v.Keys[i]
       rw [dF,aT (by omega)]
       simp only [h5,bC,bS]
       rw [iT hik,aA,aKM (by omega) (by omega),aA,aA,iT hi,aA,(ih _ _ (by have:=qC (bZ hi);omega) (k3.2.2 _ (bZ hi)) (l3 _ (bZ hi)) (by simp only [aW];omega)).2,aA,pW hi k3.1]
       simp
      ·
       unfold aAt
       rw [dF,aQ (by simp only;omega)]
      ·
       unfold pG
       rw [hz] at hi
       have hik:i<v.Keys.length:=by omega
       simp only [List.getElem_zip,aW] at hs ⊢
       have:=aDB v.Keys[i]
       rw [dF,aT (by omega),iT hi,aA]
       simp only [h5,bC,bS]
       rw [iT hik,aA,aQl (by omega) (by omega),aA,(ih _ _ (by have:=qC (bZ hi);omega) (k3.2.2 _ (bZ hi)) (l3 _ (bZ hi)) (by simp only [aW];omega)).1,aA,pW hi k3.1]
       simp
      ·
       unfold pG
       rw [dF,aQ (by simp only;omega)]
     ·
      simp only [h4,h5,or_self,bP,aZ,cD,aA,Fl.next]
      rw [xG (body:=pG (sA n) v) (s:=(b++qT v.Kind,0)) (r:=b++qT v.Kind) (by unfold pG;rw [l1 h4 h5];rfl)]
      simp
theorem aHI {b:List UInt8}{v:aF} (hv:dS v) (hB:(b++sQ v).length≤1000000000000):aAE b v=some (b++if fmd true v then sQ v else []):=by
 unfold aAE aDG
 simp only [aW] at hB
 rw [aCg (by omega),aDW hv]
 cases hf:fmd true v
 ·
  simp
 ·
  simp only [aA,bE,aZ,bQ]
  rw [zF (hgt v) fun n hn=>(aIv n v b hn hv hf (by simp only [aW];omega)).1,aA]
theorem aLq {b:List UInt8}{v:aF} (hv:dS v) (hB:(b++sQ v).length≤1000000000000):aDt b v=some (b++if fmd true v then sQ v else []):=by
 unfold aDt aKJ
 simp only [aW] at hB
 rw [oQ (by simp;omega),aCX hv]
 cases hf:fmd true v
 ·
  simp
 ·
  simp only [aA,bE,aZ,bQ,jH]
  rw [zF (hgt v) fun n hn=>(aIv n v b hn hv hf (by simp only [aW];omega)).2,aA]
def aGe (o:bV):List UInt8:=uZ o.Queue++qT o.ToStart++qT o.ToClose++qT o.Total++qT o.Beat++qT o.First++qT o.Coef++qT o.Most++qT o.Attempts++qT o.Fatal.length++o.Fatal.flatMap uZ
theorem aLf {α:Type} (f:α→List UInt8) (m:Nat):∀ (l:List α),(∀ x∈l,(f x).length≤m)→(l.flatMap f).length≤l.length*m
 | [],_=>by simp
 | x :: l,h=>by
  have h1:=h x (by simp)
  have h2:=aLf f m l (fun y hy=>h y (by simp [hy]))
  simp only [iW,aW,dY,fV];omega
theorem aOh {s:List UInt8} (h:pR s=true):s.length≤64:=by
 unfold pR at h
 simp only [aY,cB] at h
 exact h.1.1.2
theorem aCq {o:bV} (h:pS o=true):o.Queue.length≤64∧o.Fatal.length≤64∧∀ s∈o.Fatal,s.length≤4096:=by
 unfold pS at h
 simp only [aY,dJ,cB,iJ,List.any_eq_false,pF,decide_eq_false_iff_not] at h
 refine ⟨?_,h.1.1.1.1.2,fun s hs=>by have:=h.2 s hs;omega⟩
 rcases h.1.1.1.1.1 with hq | hq
 ·
  rw [hq];simp
 ·
  exact aOh hq
theorem aGf {o:bV} (h:iR o) (hp:pS o=true):(aGe o).length≤300000:=by
 obtain ⟨h1,h2,h3⟩:=aCq hp
 obtain ⟨k0,k1,k2,k3,k4,k5,k6,k7,k8,k9⟩:=h
 have a0:=yU (s:=o.Queue) (by omega)
 have a1:=vZ k1
 have a2:=vZ k2
 have a3:=vZ k3
 have a4:=vZ k4
 have a5:=vZ k5
 have a6:=vZ k6
 have a7:=vZ k7
 have a8:=vZ k8
 have a9:=aBE k9.1
 have a10:=aLf uZ 4106 o.Fatal (fun s hs=>by have:=h3 s hs;have:=yU (s:=s) (by omega);omega)
 unfold aGe
 simp only [aW]
 omega
theorem aQj {b:List UInt8}{o:bV} (h:iR o) (hp:pS o=true) (hb:b.length≤100000000000):xC b o=some (b++aGe o):=by
 obtain ⟨h1,h2,h3⟩:=aCq hp
 have hl:=aGf h hp
 obtain ⟨k0,k1,k2,k3,k4,k5,k6,k7,k8,k9⟩:=h
 have hok:tN (o.Fatal.length:Int):=⟨by omega,by omega⟩
 unfold aGe at hl ⊢
 simp only [aW] at hl
 unfold xC
 simp only [rB,aA]
 rw [aQl (by first | omega | (simp only [aW];omega)) (by omega),aA,aFv (by first | omega | (simp only [aW];omega)) k1,aA,aFv (by first | omega | (simp only [aW];omega)) k2,aA,
  aFv (by first | omega | (simp only [aW];omega)) k3,aA,aFv (by first | omega | (simp only [aW];omega)) k4,aA,aFv (by first | omega | (simp only [aW];omega)) k5,aA,
  aFv (by first | omega | (simp only [aW];omega)) k6,aA,aFv (by first | omega | (simp only [aW];omega)) k7,aA,aFv (by first | omega | (simp only [aW];omega)) k8,aA,
  aFv (by first | omega | (simp only [aW];omega)) hok,aA]
 rw [aAi 1000000000000 o.Fatal uZ _ (by first | omega | (simp only [aW];omega)) (fun s i hi hs=>?_) (fun s=>?_)]
 ·
  simp
 ·
  unfold wS
  simp only [aW] at hs
  have:=aDB o.Fatal[i]
  rw [dF,aT (by simp only;omega),iT hi,aA,aQl (by simp only;omega) (by omega),aA,pW hi k9.1]
 ·
  unfold wS
  rw [dF,aQ (by simp only;omega)]
theorem aHx {b:List UInt8}{o:bV} (h:iR o) (hb:b.length≤100000000000):qL b o=some (b++if pS o then aGe o else []):=by
 unfold qL
 rw [aCg (by omega),aAa h]
 cases hp:pS o
 ·
  simp
 ·
  simp [aQj h hp hb]
theorem aFy {b:List UInt8}{o:bV} (h:iR o) (hb:b.length≤100000000000):zI b o=some (b++if pS o then aGe o else []):=by
 unfold zI
 rw [oQ (by simp;omega),aAz h]
 cases hp:pS o
 ·
  simp
 ·
  obtain ⟨h1,h2,h3⟩:=aCq hp
  have hl:=aGf h hp
  obtain ⟨k0,k1,k2,k3,k4,k5,k6,k7,k8,k9⟩:=h
  have hok:tN (o.Fatal.length:Int):=⟨by omega,by omega⟩
  unfold aGe at hl ⊢
  simp only [aW] at hl
  simp only [aA,jH,bE,aZ,bQ]
  rw [aKM (by omega) (by omega),aA]
  have hns:∀ n∈[o.ToStart,o.ToClose,o.Total,o.Beat,o.First,o.Coef,o.Most,o.Attempts,(o.Fatal.length:Int)],tN n:=by
   simp only [eQ,List.not_mem_nil,lI]
   rintro n (rfl | rfl | rfl | rfl | rfl | rfl | rfl | rfl | rfl) <;> assumption
  rw [aAi 1000000000000 [o.ToStart,o.ToClose,o.Total,o.Beat,o.First,o.Coef,o.Most,o.Attempts,(o.Fatal.length:Int)] qT _ (by simp only [aW,iW,pC,gB];omega) (fun s i hi hs=>?_) (fun s=>?_),aA]
  ·
   rw [aAi 1000000000000 o.Fatal uZ _ (by simp only [aW,iW,pC,gB];omega) (fun s i hi hs=>?_) (fun s=>?_)]
   ·
    simp
   ·
    unfold wO
    simp only [aW] at hs
    have:=aDB o.Fatal[i]
    rw [dF,aT (by simp only;omega),iT hi,aA,aKM (by simp only;omega) (by omega),aA,pW hi k9.1]
   ·
    unfold wO
    rw [dF,aQ (by simp only;omega)]
  ·
   unfold wN
   simp only [aW] at hs
   rw [dF,aT (by simp only;omega),iT hi,aA,aKL (by simp only;omega) (hns _ (bZ hi)),aA,pW hi (by simp)]
  ·
   unfold wN
   rw [dF,aQ (by simp only;omega)]
theorem aBJ {v:aF} (h:dX v=true):shr v=true∧fmd false v=true∧fmd true v=true:=by
 unfold dX wth at h
 simp only [aY] at h
 refine ⟨h.1.2,h.2,?_⟩
 have:=h.2
 rw [aRc (hgt v) v (fB _)] at this
 simp only [aY] at this
 exact this.1
theorem aLb {c:fG} (h:jP c=true):dX c.Data=true∧pS c.Opts=true:=by
 unfold jP at h
 simp only [aY] at h
 exact ⟨h.1.1.1.1.1.2,h.1.1.1.1.2⟩
theorem aDc {r:aM}{n:Int}{rest:List UInt8} (h:At r (qT n++rest)) (hn:tN n):∃ r',iK r=some (n,r')∧At r' rest:=by
 obtain ⟨r',h1,h2⟩:=aAc (low:=-9223372036854775808) (high:=9223372036854775807) h hn hn.1 hn.2
 exact ⟨r',by unfold iK;rw [h1];rfl,h2⟩
theorem aMS {r:aM}{o:bV}{rest:List UInt8} (h:At r (aGe o++rest)) (ho:iR o) (hp:pS o=true):∃ r',kW r=some (o,r')∧At r' rest:=by
 obtain ⟨p1,p2,p3⟩:=aCq hp
 obtain ⟨k0,k1,k2,k3,k4,k5,k6,k7,k8,k9⟩:=id ho
 have hok:tN (o.Fatal.length:Int):=⟨by omega,by omega⟩
 unfold aGe at h
 simp only [dD] at h
 obtain ⟨r0,a0,l0⟩:=aEJ (most:=4096) h (by omega)
 obtain ⟨r1,a1,l1⟩:=aDc l0 k1
 obtain ⟨r2,a2,l2⟩:=aDc l1 k2
 obtain ⟨r3,a3,l3⟩:=aDc l2 k3
 obtain ⟨r4,a4,l4⟩:=aDc l3 k4
 obtain ⟨r5,a5,l5⟩:=aDc l4 k5
 obtain ⟨r6,a6,l6⟩:=aDc l5 k6
 obtain ⟨r7,a7,l7⟩:=aDc l6 k7
 obtain ⟨r8,a8,l8⟩:=aDc l7 k8
 obtain ⟨r9,a9,l9⟩:=aDc l8 hok
 unfold kW
 rw [a0]
 simp only [aA,sK]
 rw [a1]
 simp only [aA]
 rw [a2]
 simp only [aA]
 rw [a3]
 simp only [aA]
 rw [a4]
 simp only [aA]
 rw [a5]
 simp only [aA]
 rw [a6]
 simp only [aA]
 rw [a7]
 simp only [aA]
 rw [a8]
 simp only [aA]
 rw [a9]
 simp only [aA]
 rw [uP l9,tW]
 have hin:inB (o.Fatal.length:Int) 0 64=true:=by unfold inB;simp;omega
 rw [hin]
 simp only [aA,bC,fW,gd,bQ,bE,bS,aZ]
 obtain ⟨X,g1,g2⟩:=aAj (body:=jT ((o.Fatal.length:Int),r9))
  (fun s=>∃ (i:Nat) (r':aM),i≤o.Fatal.length∧s=((i:Int),r',o.Fatal.take i)∧At r' ((o.Fatal.drop i).flatMap uZ++rest)) (fun s=>o.Fatal.length - s.1.toNat)
  (fun X=>∃ r',X=(r',o.Fatal)∧At r' rest) (by
   rintro s ⟨i,r',hi,rfl,hat'⟩
   unfold jT
   by_cases hlt:i<o.Fatal.length
   ·
    rw [aEQ uZ _ i hlt,dD] at hat'
    obtain ⟨r3,f1,f2⟩:=aEJ (most:=4096) hat' (by have:=p3 _ (bZ hlt);omega)
    refine .inl ⟨((i+1:Nat),r3,o.Fatal.take (i+1)),?_,⟨i+1,r3,by omega,rfl,f2⟩,by simp;omega⟩
    simp only
    rw [dF,aT (by omega),uP hat']
    simp only [aA,bC,bS,Fl.next]
    rw [f1]
    simp only [aA]
    rw [oQ (by simp;omega),pW hlt (by omega),← eN hlt]
    rfl
   ·
    obtain rfl:i=o.Fatal.length:=by omega
    refine .inr ⟨(r',o.Fatal),?_,r',rfl,by simpa using hat'⟩
    simp only
    rw [dF,aQ (by omega),kO];rfl) ((0:Int),r9,[]) ⟨0,r9,by omega,by simp,by simpa using l9⟩
 obtain ⟨r',rfl,hat'⟩:=g2
 rw [g1]
 simp only [aA]
 have hokP:iR ⟨o.Queue,o.ToStart,o.ToClose,o.Total,o.Beat,o.First,o.Coef,o.Most,o.Attempts,o.Fatal⟩:=ho
 have hpP:pS ⟨o.Queue,o.ToStart,o.ToClose,o.Total,o.Beat,o.First,o.Coef,o.Most,o.Attempts,o.Fatal⟩=true:=hp
 rw [uP hat',aAa hokP,hpP]
 refine ⟨r',?_,hat'⟩
 simp only [aA,bC,fW,gd,bQ,bE,bS,aZ]
 rw [uP hat']
 rfl
theorem aGs {r:aM}{v:aF}{rest:List UInt8} (h:At r (sQ v++rest)) (hv:dS v) (hr:dX v=true) (hn:nsz v≤1200):∃ r',rP r=some (v,r')∧At r' rest:=by
 obtain ⟨q1,q2,q3⟩:=aBJ hr
 obtain ⟨d1,d2⟩:=aO0 (hgt v) v (fB _) (by omega)
 have hw:wth v=true:=by unfold dX at hr;simp only [aY] at hr;exact hr.1
 unfold wth at hw
 rw [d1,d2] at hw
 simp only [aY,cB] at hw
 obtain ⟨r',g1,g2⟩:=aOJ (2*hgt v) v 1 0 r rest h hv q2 q1 (by omega) (by omega) (by omega) (fB _)
 have g1:=zT g1
 simp only [rF] at g1
 refine ⟨r',?_,g2⟩
 unfold rP
 rw [uP h]
 simp only [aA,Int.reduceEq,bP,aZ,Fl.next]
 rw [g1]
 simp only [aA]
 rw [uP g2]
 rfl
theorem aIp {α:Type}{row:α→List PV}:∀ {l:List α}{x:α},x∈l→PV.bulkRow (row x)≤PV.bulkRows (l.map row)
 | [],x,h=>by simp at h
 | y :: l,x,h=>by
  simp only [iU,PV.bulkRows]
  rcases eQ.1 h with rfl | h
  ·
   omega
  ·
   have:=aIp (row:=row) h;omega
theorem aOL (v:aF):PV.bulkRow (cF v)=v.Text.length+PV.bulkRows (v.Items.map cF)+PV.bulkRows (v.Keys.map iF)+5:=by
 rw [dZ]
 simp only [eR,PV.bulkRow,PV.bulk,PV.ls]
 omega
theorem aQV (s:List UInt8):PV.bulkRow (iF s)=s.length+1:=by simp [iF,PV.bulkRow,PV.bulk]
theorem aKR:∀ (n:Nat) (v:aF),hgt v≤n→dS v→(sQ v).length≤20*PV.bulkRow (cF v):=by
 intro n
 induction n with
 | zero=>intro v h;have:=nQ v;omega
 | succ n ih =>
  intro v h hv
  have hh:=nQ v
  obtain ⟨k0,k1,k2,k3,k4⟩:=(fS v).1 hv
  have e1:=vZ k0
  have e2:=vZ k1
  have e3:=yU (s:=v.Text) (by unfold okS at k2;omega)
  have e4:=aBE (n:=v.Items.length) k3.1
  have hi:∀ x∈v.Items,(sQ x).length≤20*PV.bulkRow (cF x):=fun x hx=>ih x (by have:=qC hx;omega) (k3.2.2 x hx)
  rw [aIf,aOL]
  simp only [aW]
  have f4:∀ l:List aF,(∀ x∈l,(sQ x).length≤20*PV.bulkRow (cF x))→(l.flatMap sQ).length≤20*PV.bulkRows (l.map cF):=by
   intro l
   induction l with
   | nil=>intro _;simp
   | cons x l ihl =>
    intro hl
    have a1:=ihl (fun y hy=>hl y (by simp [hy]))
    have a2:=hl x (by simp)
    simp only [iW,aW,iU,PV.bulkRows];omega
  have key:∀ (l:List aF) (ks:List (List UInt8)),(∀ x∈l,(sQ x).length≤20*PV.bulkRow (cF x))→(∀ k∈ks,k.length≤9223372036854775807)→((l.zip ks).flatMap fun p=>uZ p.2++sQ p.1).length≤20*PV.bulkRows (l.map cF)+20*PV.bulkRows (ks.map iF):=by
   intro l
   induction l with
   | nil=>intro ks _ _;simp
   | cons x l ihl =>
    intro ks hl hk
    cases ks with
    | nil=>simp
    | cons k ks =>
     have a1:=ihl ks (fun y hy=>hl y (by simp [hy])) (fun y hy=>hk y (by simp [hy]))
     have a2:=hl x (by simp)
     have a4:=yU (s:=k) (hk k (by simp))
     have a5:=aQV k
     simp only [List.zip_cons_cons,iW,aW,iU,PV.bulkRows];omega
  have g4:=f4 v.Items hi
  have g5:=key v.Items v.Keys hi (fun k hk=>by have:=k4.2.2 k hk;unfold okS at this;omega)
  split
  ·
   omega
  ·
   split
   ·
    omega
   ·
    split
    ·
     simp only [aW];omega
    ·
     split
     ·
      simp only [aW];omega
     ·
      simp only [gB];omega
theorem aN3 (e:bW):PV.bulkRow (eM e)=e.Name.length+e.Key.length+PV.bulkRow (cF e.Data)+PV.bulkRow (mU e.Opts)+9:=by
 rw [aOL]
 simp only [eM,mU,PV.bulkRow,PV.bulk,PV.ls]
 omega
def uQ (e:bW):List Int:=[e.ID,e.Kind,e.Time,e.Seq,e.Ref,e.N,e.Code]
noncomputable def aA9 (e:bW):List UInt8:=(uQ e).flatMap qT++uZ e.Name++uZ e.Key++(if fmd true e.Data then sQ e.Data else [])++(if pS e.Opts then aGe e.Opts else [])
theorem aKt {e:bW} (h:gN e):∀ n∈uQ e,tN n:=by
 obtain ⟨h1,h2,h3,h4,h5,h6,h7,h8,h9,h10,h11⟩:=h
 simp only [uQ,eQ,List.not_mem_nil,lI]
 rintro n (rfl | rfl | rfl | rfl | rfl | rfl | rfl) <;> assumption
theorem aFr {e:bW} (h:gN e):((uQ e).flatMap qT).length≤70:=by
 have:=aLf qT 10 (uQ e) (fun n hn=>vZ (aKt h n hn))
 simpa [uQ] using this
def aHX (e:bW):Prop:=e.Name.length≤1000000000∧e.Key.length≤1000000000∧(sQ e.Data).length≤1000000000
theorem aN7 {e:bW} (h:gN e) (hb:PV.bulkRow (eM e)≤1048576):aHX e:=by
 have h1:=aN3 e
 have h2:=aKR _ e.Data (fB _) h.2.2.2.2.2.2.2.2.2.1
 exact ⟨by omega,by omega,by omega⟩
theorem aQ7 {e:bW} (h:gN e) (hs:aHX e):(aA9 e).length≤4000000000:=by
 obtain ⟨s1,s2,s3⟩:=hs
 have h1:=aFr h
 have h2:=yU (s:=e.Name) (by omega)
 have h3:=yU (s:=e.Key) (by omega)
 unfold aA9
 simp only [aW]
 have h4:(if fmd true e.Data then sQ e.Data else []).length≤1000000000:=by split;exact s3;simp
 have h5:(if pS e.Opts then aGe e.Opts else []).length≤300000:=by
  split
  ·
   rename_i hp;exact aGf h.2.2.2.2.2.2.2.2.2.2 hp
  ·
   simp
 omega
theorem aP0 {e:bW} (h:gN e) (hb:PV.bulkRow (eM e)≤1048576):(aA9 e).length≤400000+20*PV.bulkRow (eM e):=by
 have h0:=aN3 e
 have h1:=aFr h
 have h2:=yU (s:=e.Name) (by omega)
 have h3:=yU (s:=e.Key) (by omega)
 have h6:=aKR _ e.Data (fB _) h.2.2.2.2.2.2.2.2.2.1
 unfold aA9
 simp only [aW]
 have h4:(if fmd true e.Data then sQ e.Data else []).length≤20*PV.bulkRow (cF e.Data):=by split;exact h6;simp
 have h5:(if pS e.Opts then aGe e.Opts else []).length≤300000:=by
  split
  ·
   rename_i hp;exact aGf h.2.2.2.2.2.2.2.2.2.2 hp
  ·
   simp
 omega
theorem aMm {b:List UInt8}{e:bW} (h:gN e) (hs:aHX e) (hb:b.length≤50000000000):uT b e=some (b++aA9 e)∧aGj b e=some (b++aA9 e):=by
 have hl:=aFr h
 have hok:=aKt h
 obtain ⟨s1,s2,s3⟩:=hs
 have hv:dS e.Data:=h.2.2.2.2.2.2.2.2.2.1
 have hp:iR e.Opts:=h.2.2.2.2.2.2.2.2.2.2
 have h2:=yU (s:=e.Name) (by omega)
 have h3:=yU (s:=e.Key) (by omega)
 have h4:(if fmd true e.Data then sQ e.Data else []).length≤1000000000:=by split;exact s3;simp
 constructor
 ·
  have hloop:fI (rG e) (b,(0:Int))=some (b++(uQ e).flatMap qT):=by
   refine aAi 1000000000000 (uQ e) qT b (by simp only [aW];omega) (fun s i hi hs=>?_) (fun s=>?_)
   ·
    unfold rG
    simp only [aW] at hs
    rw [dF,aT (by show (i:Int)<((uQ e).length:Int);omega),show lO ([e.ID,e.Kind,e.Time,e.Seq,e.Ref,e.N,e.Code]:List Int) (i:Int)=some (uQ e)[i] from iT hi,aA,aFv (by simp only;omega) (hok _ (bZ hi)),aA,pW hi (by simp [uQ])]
   ·
    unfold rG
    rw [dF,aQ (by simp [uQ])]
  unfold uT
  rw [hloop,aA,aQl (by simp only [aW];omega) (by omega),aA,aQl (by simp only [aW];omega) (by omega),aA,aHI hv (by simp only [aW];omega),aA,
   aHx hp (by simp only [aW];omega),aA]
  unfold aA9
  simp only [dD]
 ·
  have hloop:fI (zC e) (b,(0:Int))=some (b++(uQ e).flatMap qT):=by
   refine aAi 1000000000000 (uQ e) qT b (by simp only [aW];omega) (fun s i hi hs=>?_) (fun s=>?_)
   ·
    unfold zC
    simp only [aW] at hs
    rw [dF,aT (by show (i:Int)<((uQ e).length:Int);omega),show lO ([e.ID,e.Kind,e.Time,e.Seq,e.Ref,e.N,e.Code]:List Int) (i:Int)=some (uQ e)[i] from iT hi,aA,aKL (by simp only;omega) (hok _ (bZ hi)),aA,pW hi (by simp [uQ])]
   ·
    unfold zC
    rw [dF,aQ (by simp [uQ])]
  unfold aGj
  rw [oQ (by simp;omega),aA,jH,hloop,aA,aKM (by simp only [aW];omega) (by omega),aA,aKM (by simp only [aW];omega) (by omega),aA,aLq hv (by simp only [aW];omega),aA,
   aFy hp (by simp only [aW];omega),aA]
  unfold aA9
  simp only [dD]
def aWH (t:List UInt8) (ks:List (List UInt8)):Int:=ks.foldl (fun a k=>IntKind.i64.wrap (a+IntKind.i64.wrap (Int.tdiv (k.length:Int) 8))) (IntKind.i64.wrap (IntKind.i64.wrap (1+IntKind.i64.wrap (Int.tdiv (t.length:Int) 8))+(ks.length:Int)))
mutual
def s23:aF→Int
 | ⟨_,_,t,l,ks⟩=>aVQ l (aWH t ks)
def aVQ:List aF→Int→Int
 | [],a=>a
 | x :: l,a=>aVQ l (IntKind.i64.wrap (a+s23 x))
end
theorem aOk {e:bW} (h:gN e):zU 272 gN [e]:=⟨by simp,by simp,fun x hx=>by rw [jZ.1 hx];exact h⟩
theorem aN5 {a:List UInt8} (ha:a.length≤9223372036854775807):aBd a a=some true:=by
 unfold aBd
 rw [uI,aT rfl,oC a.length (fun _=>true) false (fun i hi=>?_) ?_,aA]
 ·
  simp [Fl.next]
 ·
  unfold aAg
  rw [dF,aQ (by omega)]
 ·
  unfold aAg
  rw [dF,aT (by omega),iT hi,aA,aA,uI,aT rfl,pW hi ha]
  rfl
theorem aBD {e:bW} (h:rM e=true):dX e.Data=true∧pS e.Opts=true:=by
 unfold rM at h
 simp only [aY] at h
 refine ⟨h.1.2,?_⟩
 have h2:=h.2
 split at h2
 ·
  simp only [aY] at h2
  have h3:=h2.1.1.1
  unfold kE at h3
  simp only [aY] at h3
  rw [aIZ h3.2]
  decide
 ·
  unfold yI at h2
  simp only [aY] at h2
  exact (aLb h2.2).2
theorem aRu:∀ (n:Nat) (v:aF),hgt v≤n→5*nsz v≤PV.bulkRow (cF v):=by
 intro n
 induction n with
 | zero=>intro v h;have:=nQ v;omega
 | succ n ih =>
  intro v h
  have hh:=nQ v
  have key:∀ l:List aF,aGS l≤n→5*tA l≤PV.bulkRows (l.map cF):=by
   intro l
   induction l with
   | nil=>intro _;simp [tA]
   | cons x l ihl =>
    intro hl
    simp only [aGS] at hl
    have a1:=ihl (by omega)
    have a2:=ih x (by omega)
    simp only [tA,iU,PV.bulkRows];omega
  have:=key v.Items (by omega)
  rw [aOL,aIS];omega
theorem aQf {v:aF} (hr:dX v=true) (hb:nsz v≤1000000):nsz v≤1200:=by
 obtain ⟨d1,d2⟩:=aO0 (hgt v) v (fB _) hb
 have hw:wth v=true:=by unfold dX at hr;simp only [aY] at hr;exact hr.1
 unfold wth at hw
 rw [d1,d2] at hw
 simp only [aY,cB] at hw
 omega
theorem aN8 {r:aM}{e:bW}{rest:List UInt8} (h:At r (aA9 e++rest)) (he:gN e) (hr:rM e=true) (h1:e.Name.length≤4096) (h2:e.Key.length≤4096) (hn:nsz e.Data≤1200):∃ r',mN r=some (e,r')∧At r' rest:=by
 obtain ⟨p1,p2⟩:=aBD hr
 obtain ⟨q1,q2,q3⟩:=aBJ p1
 obtain ⟨k1,k2,k3,k4,k5,k6,k7,k8,k9,k10,k11⟩:=id he
 unfold aA9 uQ at h
 rw [aT q3,aT p2] at h
 simp only [iW,pC,mZ,dD] at h
 have b:∀ {n:Int},tN n→(-9223372036854775808:Int)≤n∧n≤9223372036854775807:=fun h=>h
 obtain ⟨r1,a1,l1⟩:=aAc (low:=-9223372036854775808) (high:=9223372036854775807) h k1 (b k1).1 (b k1).2
 obtain ⟨r2,a2,l2⟩:=aAc (low:=-9223372036854775808) (high:=9223372036854775807) l1 k2 (b k2).1 (b k2).2
 obtain ⟨r3,a3,l3⟩:=aAc (low:=-9223372036854775808) (high:=9223372036854775807) l2 k3 (b k3).1 (b k3).2
 obtain ⟨r4,a4,l4⟩:=aAc (low:=-9223372036854775808) (high:=9223372036854775807) l3 k4 (b k4).1 (b k4).2
 obtain ⟨r5,a5,l5⟩:=aAc (low:=-9223372036854775808) (high:=9223372036854775807) l4 k5 (b k5).1 (b k5).2
 obtain ⟨r6,a6,l6⟩:=aAc (low:=-9223372036854775808) (high:=9223372036854775807) l5 k6 (b k6).1 (b k6).2
 obtain ⟨r7,a7,l7⟩:=aAc (low:=-9223372036854775808) (high:=9223372036854775807) l6 k7 (b k7).1 (b k7).2
 obtain ⟨r8,a8,l8⟩:=aEJ (most:=4096) l7 (by omega)
 obtain ⟨r9,a9,l9⟩:=aEJ (most:=4096) l8 (by omega)
 obtain ⟨r10,a10,l10⟩:=aGs l9 k10 p1 hn
 obtain ⟨r11,a11,l11⟩:=aMS l10 k11 p2
 refine ⟨r11,?_,l11⟩
 unfold mN
 rw [a1,aA,a2,aA,a3,aA,a4,aA,a5,aA,a6,aA,a7,aA,a8,aA,a9,aA,a10,aA,a11,aA]
 have hE:xD (bW.mk e.ID e.Kind e.Time e.Seq e.Ref e.N e.Code e.Name e.Key e.Data e.Opts)=some true:=by rw [← hr];exact xE he
 rw [uP l11]
 simp only [aA,hE]
 simp [gd,uP l11]
def aOn:BitVec 32:=3988292384#32
def aDR (c:BitVec 32):BitVec 32:=(c >>> 1) ^^^ (if c.toNat % 2=1 then aOn else 0#32)
def aSK (c:BitVec 32):BitVec 32:=aDR (aDR (aDR (aDR (aDR (aDR (aDR (aDR c)))))))
def aNY (c:BitVec 32) (b:List UInt8):BitVec 32:=b.foldl (fun c x=>aSK (c ^^^ BitVec.ofNat 32 x.toNat)) c
def crc (b:List UInt8):BitVec 32:=4294967295#32 ^^^ aNY 4294967295#32 b
theorem aPd (a:BitVec 32):BitVec.ofInt 32 (a.toNat:Int)=a:=by rw [BitVec.ofInt_natCast];simp
theorem w32 {n:Nat} (h:n<4294967296):IntKind.u32.wrap (n:Int)=(n:Int):=by
 simp only [IntKind.wrap,IntKind.bits,IntKind.signed]
 simp
 omega
theorem x32 (a b:BitVec 32):kL .xor .u32 (a.toNat:Int) (b.toNat:Int)=((a ^^^ b).toNat:Int):=by
 show IntKind.u32.wrap ((BitVec.ofInt 32 (a.toNat:Int) ^^^ BitVec.ofInt 32 (b.toNat:Int)).toNat:Int)=_
 rw [aPd,aPd,w32 (a ^^^ b).isLt]
theorem a32 (a:BitVec 32):kL .and .u32 (a.toNat:Int) (1:Int)=((a.toNat % 2:Nat):Int):=by
 show IntKind.u32.wrap ((BitVec.ofInt 32 (a.toNat:Int) &&& BitVec.ofInt 32 ((1#32:BitVec 32).toNat:Int)).toNat:Int)=_
 rw [aPd,aPd,BitVec.toNat_and,show (1#32:BitVec 32).toNat=1 from rfl,Nat.and_one_is_mod,w32 (by omega)]
theorem aVV (c:BitVec 32):(c >>> 1).toNat=c.toNat / 2:=by simp [BitVec.toNat_ushiftRight,Nat.shiftRight_eq_div_pow]
theorem fdn (n k:Nat) {c:Int} (h:c=(k:Int)):Int.fdiv (n:Int) c=((n / k:Nat):Int):=by
 subst h;rw [lU _ (by omega),Int.natCast_ediv]
theorem aEr {c:BitVec 32}{i:Nat} (hi:i<8):vE ((c.toNat:Int),(i:Int))=some (.next (((aDR c).toNat:Int),((i+1:Nat):Int))):=by
 unfold vE
 rw [dF,aT (by simp only;omega),pW (n:=8) hi (by omega),a32]
 have h1:Int.fdiv (c.toNat:Int) (2 ^ (min (Int.toNat (1:Int)) (IntKind.bits .u32)))=((c >>> 1).toNat:Int):=by rw [aVV];exact fdn _ 2 (by decide)
 have h2:IntKind.u32.wrap ((3988292384:Int)*((c.toNat % 2:Nat):Int))=((if c.toNat % 2=1 then aOn else 0#32:BitVec 32).toNat:Int):=by
  rcases Nat.mod_two_eq_zero_or_one c.toNat with h | h
  ·
   rw [h];rfl
  ·
   rw [h];rfl
 simp only [h1,h2,x32]
 rfl
theorem aEs {c:BitVec 32}{i:Nat} (hi:i<8):tP ((c.toNat:Int),(i:Int))=some (.next (((aDR c).toNat:Int),((i+1:Nat):Int))):=by
 unfold tP
 have hlt:=c.isLt
 have h0:Int.tmod (c.toNat:Int) 2=((c.toNat % 2:Nat):Int):=rfl
 have h1:IntKind.u32.wrap (Int.tdiv (c.toNat:Int) 2)=((c >>> 1).toNat:Int):=by
  rw [aVV,show Int.tdiv (c.toNat:Int) 2=((c.toNat / 2:Nat):Int) from rfl,w32 (by omega)]
 rw [dF,aT (by simp only;omega),pW (n:=8) hi (by omega)]
 simp only [h0,h1]
 rw [dF]
 by_cases h:c.toNat % 2=1
 ·
  rw [aT (by omega),show (3988292384:Int)=(aOn.toNat:Int) from rfl,x32]
  unfold aDR;rw [aT h]
 ·
  rw [aQ (by omega)]
  unfold aDR;rw [aQ h,BitVec.xor_zero]
theorem aU6 {c:BitVec 32}:vE ((c.toNat:Int),((8:Nat):Int))=some (.out (c.toNat:Int)):=by unfold vE;rw [dF,aQ (by simp only;omega)]
theorem aU7 {c:BitVec 32}:tP ((c.toNat:Int),((8:Nat):Int))=some (.out (c.toNat:Int)):=by unfold tP;rw [dF,aQ (by simp only;omega)]
theorem aSO (c:BitVec 32):fI vE ((c.toNat:Int),(0:Int))=some ((aSK c).toNat:Int):=by
 show fI vE ((c.toNat:Int),((0:Nat):Int))=_
 rw [jU (aEr (by omega)),jU (aEr (by omega)),jU (aEr (by omega)),jU (aEr (by omega)),jU (aEr (by omega)),jU (aEr (by omega)),jU (aEr (by omega)),jU (aEr (by omega))]
 exact xG aU6
theorem aSP (c:BitVec 32):fI tP ((c.toNat:Int),(0:Int))=some ((aSK c).toNat:Int):=by
 show fI tP ((c.toNat:Int),((0:Nat):Int))=_
 rw [jU (aEs (by omega)),jU (aEs (by omega)),jU (aEs (by omega)),jU (aEs (by omega)),jU (aEs (by omega)),jU (aEs (by omega)),jU (aEs (by omega)),jU (aEs (by omega))]
 exact xG aU7
theorem aQW (c:BitVec 32) (x:UInt8):kL .xor .u32 (c.toNat:Int) (IntKind.wrap .u32 ((x.toNat:Nat):Int))=((c ^^^ BitVec.ofNat 32 x.toNat).toNat:Int):=by
 have hx:=x.toNat_lt
 have h2:(BitVec.ofNat 32 x.toNat).toNat=x.toNat:=by rw [BitVec.toNat_ofNat];omega
 rw [w32 (by omega),← h2,x32,h2]
theorem aMC {b:List UInt8}{c:BitVec 32}{body:Int × Int→Option (dN (Int × Int) Int)} (h:∀ (c:BitVec 32) (i:Nat) (hi:i<b.length),body ((c.toNat:Int),(i:Int))=some (.next (((aSK (c ^^^ BitVec.ofNat 32 b[i].toNat)).toNat:Int),((i+1:Nat):Int))))
  (hout:∀ s,body (s,(b.length:Int))=some (.out s)):fI body ((c.toNat:Int),(0:Int))=some ((aNY c b).toNat:Int):=by
 refine aDl (fun s=>∃ i:Nat,s.2=(i:Int)∧i≤b.length∧s.1=((aNY c (b.take i)).toNat:Int)) (fun s=>b.length - s.2.toNat) (fun _=>((aNY c b).toNat:Int)) ?_ _ ⟨0,rfl,by omega,by simp [aNY]⟩
 rintro ⟨s,i0⟩ ⟨i,hi0,hi,hs⟩
 simp only at hi0 hs
 subst hi0 hs
 by_cases hlt:i<b.length
 ·
  refine .inl ⟨_,h _ i hlt,⟨i+1,rfl,hlt,?_⟩,by simp;omega,rfl⟩
  rw [eN hlt,aNY,aNY,List.foldl_append]
  rfl
 ·
  obtain rfl:i=b.length:=by omega
  rw [hout,kO]
  exact .inr rfl
theorem aO3 (c:BitVec 32):IntKind.wrap .i64 (kL .xor .u32 (4294967295:Int) (c.toNat:Int))=((4294967295#32 ^^^ c).toNat:Int):=by
 rw [show (4294967295:Int)=((4294967295#32:BitVec 32).toNat:Int) from rfl,x32,w64 (by omega) (by have:=(4294967295#32 ^^^ c).isLt;omega)]
theorem aMq {b:List UInt8} (hb:b.length≤9223372036854775807):aEf b=some ((crc b).toNat:Int):=by
 unfold aEf
 rw [show (4294967295:Int)=((4294967295#32:BitVec 32).toNat:Int) from rfl,aMC (b:=b) (fun c i hi=>?_) (fun s=>?_),aA]
 ·
  exact oK some (aO3 _)
 ·
  unfold aCj
  rw [dF,aT (by simp only;omega),iT hi,aA,aQW,aSO,aA,pW hi hb]
 ·
  unfold aCj
  rw [dF,aQ (by simp only;omega)]
theorem aOu {b:List UInt8} (hb:b.length≤9223372036854775807):aCU b=some ((crc b).toNat:Int):=by
 unfold aCU
 rw [show (4294967295:Int)=((4294967295#32:BitVec 32).toNat:Int) from rfl,aMC (b:=b) (fun c i hi=>?_) (fun s=>?_),aA]
 ·
  exact oK some (aO3 _)
 ·
  unfold aBF
  rw [dF,aT (by simp only;omega),iT hi,aA,aQW,aSP,aA,pW hi hb]
 ·
  unfold aBF
  rw [dF,aQ (by simp only;omega)]
def cb (c:BitVec 32) (k:Nat):Nat:=c.toNat / 2 ^ k % 256
def aBu (b:List UInt8):List UInt8:=[UInt8.ofNat (cb (crc b) 24),UInt8.ofNat (cb (crc b) 16),UInt8.ofNat (cb (crc b) 8),UInt8.ofNat (cb (crc b) 0)]
theorem w8n (n:Nat):IntKind.u8.wrap (n:Int)=((n % 256:Nat):Int):=by
 simp only [IntKind.wrap,IntKind.bits,IntKind.signed]
 simp
theorem aEd {b:List UInt8} (hb:b.length≤9223372036854775807):pQ b=some (aFi.mk (cb (crc b) 24:Nat) (cb (crc b) 16:Nat) (cb (crc b) 8:Nat) (cb (crc b) 0:Nat)):=by
 unfold pQ
 rw [aMq hb,aA]
 have e1:Int.fdiv ((crc b).toNat:Int) (2 ^ (min (Int.toNat (24:Int)) (IntKind.bits .i64)))=(((crc b).toNat / 2 ^ 24:Nat):Int):=fdn _ _ (by decide)
 have e2:Int.fdiv ((crc b).toNat:Int) (2 ^ (min (Int.toNat (16:Int)) (IntKind.bits .i64)))=(((crc b).toNat / 2 ^ 16:Nat):Int):=fdn _ _ (by decide)
 have e3:Int.fdiv ((crc b).toNat:Int) (2 ^ (min (Int.toNat (8:Int)) (IntKind.bits .i64)))=(((crc b).toNat / 2 ^ 8:Nat):Int):=fdn _ _ (by decide)
 rw [e1,e2,e3,w8n,w8n,w8n,w8n]
 simp [cb]
theorem aDQ (c:BitVec 32) (k:Nat):cb c k<256:=Nat.mod_lt _ (by omega)
theorem aJN {α:Type} (f:α→List UInt8) (l:List α) (i:Nat):((l.take i).flatMap f).length≤(l.flatMap f).length:=by
 have:l.flatMap f=(l.take i).flatMap f++(l.drop i).flatMap f:=by rw [← kU,jM]
 rw [this,aW];omega
theorem aMB {α τ:Type} (l:List α) (p:α→Bool) (f:α→List UInt8) (z:τ) (a0:List UInt8) {body:List UInt8 × Int→Option (dN (List UInt8 × Int) (Fl τ (List UInt8)))}
  (h:∀ (i:Nat) (hi:i<l.length),body (a0++(l.take i).flatMap f,(i:Int))=some (if p l[i] then .next (a0++(l.take i).flatMap f++f l[i],((i+1:Nat):Int)) else .out (.done z)))
  (hout:∀ a,body (a,(l.length:Int))=some (.out (.go a))):fI body (a0,(0:Int))=some (if l.all p then .go (a0++l.flatMap f) else .done z):=by
 refine aDl (fun s=>∃ i:Nat,s=(a0++(l.take i).flatMap f,(i:Int))∧i≤l.length∧∀ (j:Nat) (hj:j<l.length),j<i→p l[j]=true) (fun s=>l.length - s.2.toNat) (fun _=>(if l.all p then Fl.go (a0++l.flatMap f) else Fl.done z:Fl τ (List UInt8))) ?_ _ ⟨0,by simp,by omega,by omega⟩
 rintro s ⟨i,rfl,hi,hp⟩
 by_cases hlt:i<l.length
 ·
  rw [h i hlt]
  by_cases hpi:p l[i]=true
  ·
   rw [aT hpi]
   refine .inl ⟨_,rfl,⟨i+1,?_,hlt,fun j hj hji=>by rcases Nat.lt_succ_iff_lt_or_eq.1 hji with h1 | rfl;exact hp j hj h1;exact hpi⟩,by simp;omega,rfl⟩
   rw [eN hlt,kU,dD]
   simp
  ·
   rw [aQ hpi,aQ (fun ha=>hpi (cI.1 ha _ (bZ hlt)))]
   exact .inr rfl
 ·
  obtain rfl:i=l.length:=by omega
  rw [hout,kO,aT (cI.2 fun x hx=>by obtain ⟨j,hj,rfl⟩:=qV.1 hx;exact hp j hj hj)]
  exact .inr rfl
noncomputable def wZ (l:List bW):List UInt8:=qT l.length++l.flatMap aA9
theorem aPR {l:List bW} (h:zU 272 gN l) (hb:PV.bulkRows (l.map eM)≤1048576) (hn:l.length≤2000):(wZ l).length≤850000000:=by
 have key:∀ m:List bW,(∀ e∈m,gN e)→PV.bulkRows (m.map eM)≤1048576→(m.flatMap aA9).length≤400000*m.length+20*PV.bulkRows (m.map eM):=by
  intro m
  induction m with
  | nil=>intro _ _;simp
  | cons e m ih =>
   intro hm hb
   simp only [iU,PV.bulkRows] at hb ⊢
   have a1:=ih (fun x hx=>hm x (by simp [hx])) (by omega)
   have a2:=aP0 (hm e (by simp)) (by omega)
   simp only [iW,aW,dY];omega
 have h1:=key l h.2.2 hb
 have h2:=aBE (n:=l.length) h.1
 unfold wZ
 simp only [aW];omega
theorem aEK {n:Nat} (h:n<256):vG (n:Int)=some (UInt8.ofNat n):=by
 unfold vG
 rw [aT (by omega)]
 rfl
def bok (l:List bW):Prop:=zU 272 gN l∧(∀ e∈l,aHX e)∧(l.length≤2000→(wZ l).length≤900000000)
noncomputable def aDd (l:List bW):List UInt8 × Int:=if 2000<l.length then ([],6) else if l.all rM then (wZ l++aBu (wZ l),0) else ([],11)
theorem aSa {l:List bW} (hb:(wZ l).length≤900000000) (i:Nat):(qT l.length++(l.take i).flatMap aA9).length≤900000000:=by
 have:=aJN aA9 l i
 unfold wZ at hb
 simp only [aW] at hb ⊢;omega
theorem aFS {l:List bW} (h:bok l):oF l=some (aDd l):=by
 obtain ⟨h1,h2,h3⟩:=h
 unfold oF aDd
 by_cases hn:2000<l.length
 ·
  rw [jS (by omega),bS,aT hn]
 ·
  have hb:=h3 (by omega)
  rw [kA (by omega),aZ,aQ hn,aFv (by simp) ⟨by omega,by omega⟩,aA,jH,
   aMB l rM aA9 (([]:List UInt8),(11:Int)) (qT l.length) (fun i hi=>?_) (fun a=>?_),aA]
  ·
   cases hr:l.all rM
   ·
    simp [Fl.next]
   ·
    simp only [bQ,Fl.next]
    have hb':(qT l.length++l.flatMap aA9).length≤900000000:=hb
    rw [aEd (by omega),aA]
    simp only
    rw [aEK (aDQ _ _),aA,aEK (aDQ _ _),aA,aEK (aDQ _ _),aA,aEK (aDQ _ _),aA,oQ (by simp only [dY,gB];omega)]
    rfl
  ·
   unfold vI
   have he:=h1.2.2 _ (bZ hi)
   have ha:=aSa hb i
   have hs:=h2 _ (bZ hi)
   rw [dF,aT (by simp only;omega),iT hi,aA,xE he,aA]
   cases hr:rM l[i]
   ·
    simp
   ·
    rw [bE,aZ,(aMm (b:=[]) he hs (by simp)).1,aA,jH,oQ (by have:=aQ7 he hs;simp only;omega),aA,pW hi h1.1]
    simp
  ·
   unfold vI
   rw [dF,aQ (by simp only;omega)]
theorem aUe {r:aM} (h:At r []):pH r=some 0:=by
 obtain ⟨b,a,h1,h2,rfl,h3⟩:=h
 have:¬a<b.length:=fun hh=>by
  have:=oK List.length h3
  simp only [gK,gB] at this;omega
 unfold pH gP
 simp only [aA,bC,bE,aZ]
 rw [dF,aQ (by omega)]
def aRa (e:bW):Prop:=rM e=true∧e.Name.length≤4096∧e.Key.length≤4096∧nsz e.Data≤1200
theorem aPj (B:List UInt8) (n:Nat) (hn:n=B.length):List.take n (B++aBu B)=B∧List.drop n (B++aBu B)=aBu B:=by subst hn;simp
theorem aDn {n:Nat} (h:n<256):(n:Int)=((UInt8.ofNat n).toNat:Int):=by
 rw [UInt8.toNat_ofNat']
 omega
theorem aKZ {l:List bW} (h:zU 272 gN l) (hn:l.length≤2000) (hb:(wZ l).length≤900000000) (he:∀ e∈l,aRa e):kX (wZ l++aBu (wZ l))=some (l,0):=by
 have h4:(aBu (wZ l)).length=4:=rfl
 have hlen:(wZ l++aBu (wZ l)).length=(wZ l).length+4:=by rw [aW,h4]
 have hw:IntKind.wrap .i64 (((wZ l++aBu (wZ l)).length:Int) - 4)=((wZ l).length:Int):=by rw [hlen,w64 (by omega) (by omega)];omega
 unfold kX
 rw [hw,kA (by omega),aZ,kD,(aPj _ _ rfl).1,(aPj _ _ rfl).2,aIc (by omega),aA,aEd (by omega),aA,aEP (by omega),aA]
 rw [show aKO 4 (aBu (wZ l))=some () from rfl,aA]
 rw [show lO (aBu (wZ l)) (0:Int)=some (UInt8.ofNat (cb (crc (wZ l)) 24)) from rfl,aA,show lO (aBu (wZ l)) (1:Int)=some (UInt8.ofNat (cb (crc (wZ l)) 16)) from rfl,aA,
  show lO (aBu (wZ l)) (2:Int)=some (UInt8.ofNat (cb (crc (wZ l)) 8)) from rfl,aA,show lO (aBu (wZ l)) (3:Int)=some (UInt8.ofNat (cb (crc (wZ l)) 0)) from rfl,aA]
 simp only
 rw [jS (aDn (aDQ _ _)),jS (aDn (aDQ _ _)),jS (aDn (aDQ _ _)),jS (aDn (aDQ _ _))]
 simp only [oJ,bE,aZ]
 rw [aA]
 obtain ⟨r,o1,o2⟩:=aOU (b:=wZ l) (by omega)
 rw [o1,aA]
 obtain ⟨r1,a1,l1⟩:=aAc (low:=0) (high:=2000) (n:=(l.length:Int)) (rest:=l.flatMap aA9) o2 ⟨by omega,by omega⟩ (by omega) (by omega)
 rw [a1,aA]
 have key:∃ x,fI (kY ((l.length:Int),r1)) (([]:List bW),(0:Int),r1)=some x∧x.1=l∧At x.2 []:=by
  refine aAj (fun s=>∃ i:Nat,s.1=l.take i∧s.2.1=(i:Int)∧i≤l.length∧At s.2.2 ((l.drop i).flatMap aA9)) (fun s=>l.length - s.2.1.toNat) _ ?_ _ ⟨0,rfl,rfl,by omega,l1⟩
  rintro ⟨acc,i0,r2⟩ ⟨i,ha,hi0,hi,hr⟩
  simp only at ha hi0 hr
  subst ha hi0
  unfold kY
  by_cases hlt:i<l.length
  ·
   obtain ⟨q1,q2,q3,q4⟩:=he _ (bZ hlt)
   rw [aEQ aA9 l i hlt] at hr
   obtain ⟨r3,d1,d2⟩:=aN8 hr (h.2.2 _ (bZ hlt)) q1 q2 q3 q4
   rw [dF,aT (by simp only;omega)]
   simp only
   rw [d1,aA,oQ (by simp only [jK,dY,gB];omega),aA,uP d2,aA]
   refine .inl ⟨_,rfl,⟨i+1,?_,pW hlt (by omega),hlt,d2⟩,by simp only;rw [pW hlt (by omega)];simp only [kD];omega⟩
   simp only
   rw [eN hlt]
  ·
   obtain rfl:i=l.length:=by omega
   rw [dF,aQ (by simp only;omega)]
   refine .inr ⟨_,rfl,kO,?_⟩
   rw [List.drop_length] at hr
   exact hr
 obtain ⟨⟨m,r4⟩,k1,k2,k3⟩:=key
 simp only at k2 k3
 subst k2
 rw [k1,aA,aA]
 simp only
 rw [aUe k3]
 simp
theorem aNT {l:List bW} (h:zU 272 gN l) (hb:PV.bulkRows (l.map eM)≤1048576):bok l :=
 ⟨h,fun e he=>aN7 (h.2.2 e he) (by have:=aIp (row:=eM) he;omega),fun hn=>mH (aPR h hb hn) (by omega)⟩
theorem aSH {l:List bW} (hb:PV.bulkRows (l.map eM)≤1048576) (hr:l.all rM=true) (hs:∀ e∈l,e.Name.length≤500∧e.Key.length≤500):∀ e∈l,aRa e:=fun e he=>by
 have h1:=cI.1 hr e he
 have h2:=aIp (row:=eM) he
 have h3:=aRu _ e.Data (fB _)
 have h4:=aN3 e
 obtain ⟨h5,h6⟩:=hs e he
 exact ⟨h1,by omega,by omega,aQf (aBD h1).1 (by omega)⟩
def sch:bW:=bW.mk (2:Int) (2:Int) (5:Int) (0:Int) (0:Int) (1:Int) (0:Int) ([]:List UInt8) ([]:List UInt8) (aF.mk (0:Int) (0:Int) ([]:List UInt8) ([]:(List aF)) ([]:(List (List UInt8)))) (bV.mk ([]:List UInt8) (0:Int) (0:Int) (0:Int) (0:Int) (0:Int) (0:Int) (0:Int) (0:Int) ([]:(List (List UInt8))))
def e00:bW:=bW.mk (0:Int) (0:Int) (0:Int) (0:Int) (0:Int) (0:Int) (0:Int) ([]:List UInt8) ([]:List UInt8) (aF.mk (0:Int) (0:Int) ([]:List UInt8) ([]:(List aF)) ([]:(List (List UInt8)))) (bV.mk ([]:List UInt8) (0:Int) (0:Int) (0:Int) (0:Int) (0:Int) (0:Int) (0:Int) (0:Int) ([]:(List (List UInt8))))
theorem aUL:wA=some sch:=rfl
theorem aTQ:dS ⟨0,0,[],[],[]⟩:=(fS _).2 (by simp [tN,okS,zU])
theorem aTP:iR ⟨[],0,0,0,0,0,0,0,0,[]⟩:=by simp [iR,tN,okS,zU]
theorem aUs:gN e00:=⟨by simp [e00,tN],by simp [e00,tN],by simp [e00,tN],by simp [e00,tN],by simp [e00,tN],by simp [e00,tN],by simp [e00,tN],by simp [e00,okS],by simp [e00,okS],aTQ,aTP⟩
theorem aOj:gN sch:=⟨by simp [sch,tN],by simp [sch,tN],by simp [sch,tN],by simp [sch,tN],by simp [sch,tN],by simp [sch,tN],by simp [sch,tN],by simp [sch,okS],by simp [sch,okS],aTQ,aTP⟩
theorem aTU:[sch].all rM=true:=by decide +kernel
theorem aVO:[e00].all rM=false:=by decide +kernel
theorem aTK:PV.bulkRows ([sch].map eM)≤1048576:=by decide +kernel
theorem aU1:PV.bulkRows ([e00].map eM)≤1048576:=by decide +kernel
theorem aU2:PV.bulkRows (([]:List bW).map eM)≤1048576:=by decide +kernel
theorem aVA:∀ e∈[sch],e.Name.length≤500∧e.Key.length≤500:=fun e he=>by rw [jZ.1 he];decide +kernel
theorem aOg:zU 272 gN []:=⟨by simp,by simp,fun x hx=>by simp at hx⟩
theorem aIg:tK=some true:=by
 have h1:aDd [sch]=(wZ [sch]++aBu (wZ [sch]),0):=by unfold aDd;rw [aQ (by decide),aTU];rfl
 have h2:aDd [e00]=([],11):=by unfold aDd;rw [aQ (by decide),aVO];rfl
 have h3:aDd []=(wZ []++aBu (wZ []),0):=by unfold aDd;rw [aQ (by decide)];rfl
 have h4:kX []=some ([],4):=by unfold kX;rfl
 have h5:wZ []=[0]:=by decide +kernel
 have hb:=aNT (aOk aOj) aTK
 unfold tK
 rw [aUL,aA,aFS hb,aA,h1]
 simp only
 rw [aKZ (aOk aOj) (by decide) (hb.2.2 (by decide)) (aSH aTK aTU aVA),aA,h4,aA,show bW.mk _ _ _ _ _ _ _ _ _ _ _=e00 from rfl,aFS (aNT (aOk aUs) aU1),aA,h2,aFS (aNT aOg aU2),aA,h3,h5]
 have hS:xO sch sch=some true:=by rw [aDy aOj,aFq]
 rw [show lO [sch] (0:Int)=some sch from rfl,show lO ([(0:UInt8)]++aBu [0]) (0:Int)=some 0 from rfl]
 simp [gd,hS,show (aBu [0]).length=4 from rfl]
theorem aD6 (b:List UInt8):pL b=some true:=by
 unfold pL
 rw [aIg]
 by_cases hb:(2000:Int)<b.length
 ·
  simp [hb]
 ·
  obtain ⟨r,w,h1,h2,h3⟩:=aO8 (b:=b) (by omega)
  obtain ⟨x,e,r',w',h4,h5,h6,h7,-⟩:=aMu h3
  obtain ⟨y,y1,y2⟩:=aQb h6.like
  rw [kA hb,aZ,h1,aA,h2,aA,h4,aA,h5,aA,aDy h7,aFq,aA,bS,(sM h6).1,(sM h6).2,y1,y2]
  simp
theorem aNa:∀ (l:List UInt8) (k u w n:Nat),uY k u l=.inr (w,n)→tT (nU (l.take (n - k)))=l.take (n - k)∧(0<k→0<nU (l.take (n - k)))
 | [],k,u,w,n,h=>by simp only [uY] at h;split at h <;> cases h
 | c :: r,k,u,w,n,h=>by
  have hc:=c.toNat_lt
  simp only [uY] at h
  split at h
  ·
   cases h
  ·
   split at h
   ·
    obtain ⟨h0,_,_⟩:=aGn r _ _ _ _ h
    obtain ⟨h1,h2⟩:=aNa r _ _ _ _ h
    have h3:=h2 (by omega)
    rw [show n - k=(n - (k+1))+1 by omega,kV,nU]
    generalize r.take (n - (k+1))=t at *
    rw [aGt (by omega),show (c.toNat % 128+128*nU t) / 128=nU t by omega,h1,show 128+(c.toNat % 128+128*nU t) % 128=c.toNat by omega]
    refine ⟨by simp,fun _=>by omega⟩
   ·
    rename_i h3
    split at h
    ·
     cases h
    ·
     rename_i h4
     cases h
     rw [show k+1 - k=0+1 by omega,kV,List.take_zero,nU,nU,aEV (by omega),show c.toNat % 128+128*0=c.toNat by omega]
     exact ⟨by simp,fun _=>by omega⟩
theorem aMW {l:List UInt8}{low high:Int} (h:(kJ l low high).2.2=0):tT (zz (kJ l low high).1)=l.take (kJ l low high).2.1:=by
 cases hs:uY 0 0 l with
 | inl e =>
  have:=aGm l 0 0 e hs
  simp only [kJ,hs] at h
  omega
 | inr wk =>
  obtain ⟨w,k⟩:=wk
  obtain ⟨h1,h2,h3⟩:=aGn l 0 0 w k hs
  obtain ⟨h4,_⟩:=aNa l 0 0 w k hs
  simp only [kJ,hs] at h ⊢
  by_cases hc:zX w<low∨high<zX w
  ·
   rw [aT hc] at h;simp at h
  ·
   rw [aQ hc]
   simp only [aTI]
   simp only [Nat.sub_zero,Nat.pow_zero,oU,iX] at h3 h4
   rw [h3,h4]
theorem aRI {l:List UInt8}{low high:Int} (h:(kJ l low high).2.2=0):low≤(kJ l low high).1:=by
 cases hs:uY 0 0 l with
 | inl e =>
  have:=aGm l 0 0 e hs
  simp only [kJ,hs] at h
  omega
 | inr wk =>
  obtain ⟨w,k⟩:=wk
  simp only [kJ,hs] at h ⊢
  by_cases hc:zX w<low∨high<zX w
  ·
   rw [aT hc] at h;simp at h
  ·
   rw [aQ hc];simp only;omega
def Vld (r:aM):Prop:=∃ (b:List UInt8) (a:Nat) (e:Int),b.length≤1000000000∧a≤b.length∧r=⟨b,a,e,true⟩
theorem At.vld {r:aM}{l:List UInt8} (h:At r l):Vld r:=by obtain ⟨b,a,h1,h2,h3,_⟩:=h;exact ⟨b,a,0,h1,h2,h3⟩
def aC6 (r r':aM) (x:List UInt8):Prop:=∀ rest,At r' rest→At r (x++rest)
theorem aKP (r:aM):aC6 r r []:=fun _ h=>h
theorem aC6.trans {r s t:aM}{x y:List UInt8} (h:aC6 r s x) (k:aC6 s t y):aC6 r t (x++y):=fun rest ht=>by rw [dD];exact h _ (k _ ht)
theorem aBs {b:List UInt8}{a:Nat}{e:Int}{l:List UInt8} (he:e≠0):¬At ⟨b,a,e,true⟩ l:=by
 rintro ⟨b',a',_,_,h,_⟩
 simp only [aM.mk.injEq] at h
 exact he h.2.2.1
theorem xT {r r':aM}{x low high:Int} (hv:Vld r) (h:eC low high r=some (x,r')):Vld r'∧aC6 r r' (qT x):=by
 obtain ⟨b,a,e,hb,ha,rfl⟩:=hv
 by_cases he:e=0
 ·
  subst he
  have hu:=aBM (b.drop a) low high
  rw [gK] at hu
  rw [aFt ha hb] at h
  cases h
  refine ⟨⟨b,_,_,hb,by omega,rfl⟩,fun rest hr=>?_⟩
  by_cases h0:(kJ (b.drop a) low high).2.2=0
  ·
   obtain ⟨b',a',_,_,h3,h4⟩:=hr
   unfold aA7 at h3
   simp only [aM.mk.injEq] at h3
   obtain ⟨rfl,h5,_,_⟩:=h3
   refine ⟨b,a,hb,ha,rfl,?_⟩
   have h6:a'=a+(kJ (b.drop a) low high).2.1:=by omega
   subst h6
   rw [← h4,qT,aMW h0,← kG,jM]
  ·
   exact absurd hr (aBs (by omega))
 ·
  have:eC low high ⟨b,a,e,true⟩=some (0,⟨b,a,e,true⟩):=by unfold eC;rw [vH];simp [he]
  rw [this] at h
  cases h
  exact ⟨⟨b,a,e,hb,ha,rfl⟩,fun rest hr=>absurd hr (aBs he)⟩
theorem aCK {r r':aM}{x:List UInt8}{most:Int} (hv:Vld r) (h:hG most r=some (x,r')):Vld r'∧aC6 r r' (uZ x):=by
 obtain ⟨b,a,e,hb,ha,rfl⟩:=hv
 by_cases he:e=0
 ·
  subst he
  have hu:=aBM (b.drop a) 0 most
  rw [gK] at hu
  rw [aId ha hb] at h
  unfold aI2 at h
  split at h
  ·
   rename_i h0
   cases h
   exact ⟨⟨b,_,_,hb,by omega,rfl⟩,fun rest hr=>absurd hr (aBs (by omega))⟩
  ·
   rename_i h0
   split at h
   ·
    cases h
    exact ⟨⟨b,_,_,hb,by omega,rfl⟩,fun rest hr=>absurd hr (aBs (by decide))⟩
   ·
    rename_i h1
    cases h
    have h0:(kJ (b.drop a) 0 most).2.2=0:=oD h0
    have hp:=aRI h0
    refine ⟨⟨b,_,_,hb,by omega,rfl⟩,fun rest hr=>?_⟩
    obtain ⟨b',a',_,_,h3,h4⟩:=hr
    simp only [aM.mk.injEq] at h3
    obtain ⟨rfl,h5,_,_⟩:=h3
    refine ⟨b,a,hb,ha,rfl,?_⟩
    have h6:a'=a+(kJ (b.drop a) 0 most).2.1+(kJ (b.drop a) 0 most).1.toNat:=by omega
    subst h6
    have hl:((b.drop (a+(kJ (b.drop a) 0 most).2.1)).take (kJ (b.drop a) 0 most).1.toNat).length=(kJ (b.drop a) 0 most).1.toNat:=by rw [jK,gK];omega
    have e1:b.drop (a+(kJ (b.drop a) 0 most).2.1)=(b.drop a).drop (kJ (b.drop a) 0 most).2.1:=by rw [kG]
    have e2:b.drop (a+(kJ (b.drop a) 0 most).2.1+(kJ (b.drop a) 0 most).1.toNat)=((b.drop a).drop (kJ (b.drop a) 0 most).2.1).drop (kJ (b.drop a) 0 most).1.toNat:=by rw [kG,kG,jR]
    rw [← h4,uZ,hl,show (((kJ (b.drop a) 0 most).1.toNat:Nat):Int)=(kJ (b.drop a) 0 most).1 by omega,aMW h0,e2,e1,dD,jM,jM]
 ·
  have:hG most ⟨b,a,e,true⟩=some ([],⟨b,a,e,true⟩):=by unfold hG eC;rw [vH];simp [he,vH]
  rw [this] at h
  cases h
  exact ⟨⟨b,a,e,hb,ha,rfl⟩,fun rest hr=>absurd hr (aBs he)⟩
theorem aGM {r r':aM}{c t:Bool}{k:Int} (hv:Vld r) (h:jY c k r=some (t,r')):Vld r'∧(t=true→c=true∧r'=r)∧∀ rest,At r' rest→t=true:=by
 obtain ⟨b,a,e,hb,ha,rfl⟩:=hv
 unfold jY at h
 rw [aFp,aHY] at h
 by_cases he:e=0
 ·
  subst he
  cases c
  ·
   simp [aFp] at h
   obtain ⟨rfl,rfl⟩:=h
   exact ⟨⟨b,a,3,hb,ha,rfl⟩,fun h=>(by cases h),fun rest hr=>absurd hr (aBs (by decide))⟩
  ·
   simp [aFp] at h
   obtain ⟨rfl,rfl⟩:=h
   exact ⟨⟨b,a,0,hb,ha,rfl⟩,fun _=>⟨rfl,rfl⟩,fun rest hr=>rfl⟩
 ·
  cases c
  ·
   simp [aFp,he] at h
   obtain ⟨rfl,rfl⟩:=h
   exact ⟨⟨b,a,e,hb,ha,rfl⟩,fun h=>(by cases h),fun rest hr=>absurd hr (aBs he)⟩
  ·
   simp [aFp,he] at h
   obtain ⟨rfl,rfl⟩:=h
   exact ⟨⟨b,a,e,hb,ha,rfl⟩,fun h=>(by cases h),fun rest hr=>absurd hr (aBs he)⟩
theorem aFn {r r':aM}{m:Option Bool}{k:Int} (hk:k≠0) (hv:Vld r) (h:((gP r).bind fun (e:Int)=>(gd ((decide (e=(0:Int)))==true) m).bind fun (b:Bool)=>cond (cond (decide (e=(0:Int))) (!b) false) ((lN k r).bind fun (x:aM)=>some x) (some r))=some r') :
  Vld r'∧∀ rest,At r' rest→r'=r∧m=some true:=by
 obtain ⟨b,a,e,hb,ha,rfl⟩:=hv
 rw [aFp,aA] at h
 obtain ⟨y,e1,h⟩:=eF h
 by_cases he:e=0
 ·
  subst he
  have e2:=dM e1 (by decide)
  cases y
  ·
   rw [aHY] at h
   simp at h
   subst h
   exact ⟨⟨b,a,k,hb,ha,rfl⟩,fun rest hr=>absurd hr (aBs hk)⟩
  ·
   simp at h
   subst h
   exact ⟨⟨b,a,0,hb,ha,rfl⟩,fun rest hr=>⟨rfl,e2⟩⟩
 ·
  simp [he] at h
  subst h
  exact ⟨⟨b,a,e,hb,ha,rfl⟩,fun rest hr=>absurd hr (aBs he)⟩
theorem aBC {r r':aM}{x:Int} (hv:Vld r) (h:iK r=some (x,r')):Vld r'∧aC6 r r' (qT x):=by
 unfold iK at h
 obtain ⟨⟨y,s⟩,h1,h⟩:=eF h
 simp only [bH,fQ] at h
 obtain ⟨rfl,rfl⟩:=h
 exact xT hv h1
theorem aMD {σ ρ:Type}{body:σ→Option (dN σ ρ)} (I:σ→Prop) (Q:ρ→Prop) (h1:∀ s s',I s→body s=some (.next s')→I s') (h2:∀ s x,I s→body s=some (.out x)→Q x) {s:σ}{x:ρ} (hs:I s) (h:fI body s=some x):Q x:=by
 obtain ⟨n,hn⟩:=aBY h
 clear h
 induction n generalizing s with
 | zero=>cases hn
 | succ m ih =>
  simp only [aBy] at hn
  obtain ⟨st,e1,e2⟩:=eF hn
  cases st with
  | next s'=>exact ih (h1 _ _ hs e1) e2
  | out y=>cases e2;exact h2 _ _ hs e1

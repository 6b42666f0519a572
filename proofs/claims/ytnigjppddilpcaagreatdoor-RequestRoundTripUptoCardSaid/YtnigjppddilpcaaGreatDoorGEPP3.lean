/- Plain laws: what the functions compute, with no program in sight. -/
import Derived.Test.YtnigjppddilpcaaGreatDoorGEPP2
import Derived.Test.YtnigjppddilpcaaGreatDoorGEF0
import Derived.Test.YtnigjppddilpcaaGreatDoorGEF7
import Derived.Test.YtnigjppddilpcaaGreatDoorGEPP1
import Derived.Test.YtnigjppddilpcaaGreatDoorGEF1
import Derived.Test.YtnigjppddilpcaaGreatDoorGEF14
import Derived.Test.YtnigjppddilpcaaGreatDoorGEF16
import Derived.Test.YtnigjppddilpcaaGreatDoorAbsU
import Derived.Test.YtnigjppddilpcaaGreatDoorGEF8
import Derived.Test.YtnigjppddilpcaaGreatDoorGEPP0
import Derived.Test.YtnigjppddilpcaaGreatDoorGESh
import Derived.Test.YtnigjppddilpcaaGreatDoorGEF2
import Derived.Test.YtnigjppddilpcaaGreatDoorGEF3
import Derived.Test.YtnigjppddilpcaaGreatDoorGEF4
import Derived.Test.YtnigjppddilpcaaGreatDoorGEF6
import Derived.Test.YtnigjppddilpcaaGreatDoorGEF9
import Derived.Test.YtnigjppddilpcaaGreatDoorGEF10
import Derived.Test.YtnigjppddilpcaaGreatDoorGEF5
import Derived.Test.YtnigjppddilpcaaGreatDoorGEF11
namespace Go.Proofs.YtnigjppddilpcaaGreatDoor
open Go Abs
set_option linter.unusedSimpArgs false
set_option linter.unusedVariables false
theorem aAu {b:List UInt8}{n:Int} (hb:b.length≤10000000000000) (h:lV n):gI b n=some (b++iO n):=aCQ hb h.1 h.2
theorem aEj {b s:List UInt8} (hb:b.length≤10000000000000) (hs:s.length≤10000000000000):iM b s=some (b++jY s):=by rw [aGC hb hs,jY,List.append_assoc]
theorem aNj (v:aC):(cond (decide (v.Kind=(1:Int))) (some (decide (v.Kind=(1:Int)))) (cond (decide (v.Kind=(2:Int))) (some (decide (v.Kind=(2:Int)))) (some (decide (v.Kind=(6:Int))))))=some (decide (v.Kind=1∨v.Kind=2∨v.Kind=6)):=by
 by_cases h1:v.Kind=1
 ·
  simp [h1]
 ·
  by_cases h2:v.Kind=2 <;> simp [h1,h2]
theorem aLY (v:aC):(cond (decide (v.Kind=(4:Int))) (some (decide (v.Kind=(4:Int)))) (some (decide (v.Kind=(5:Int)))))=some (decide (v.Kind=4∨v.Kind=5)):=by
 by_cases h1:v.Kind=4 <;> simp [h1]
theorem aFf:∀ (n:Nat) (v:aC) (b:List UInt8),rM v≤n→bR v→xE true v=true→(b++kA v).length≤1000000000000→lC n b v=some (b++kA v)∧zO n b v=some (b++kA v):=by
 intro n
 induction n with
 | zero=>intro v b h;have:=hD v;omega
 | succ n ih =>
  intro v b h hv hf hB
  have hh:=hD v
  obtain ⟨k0,k1,k2,k3,k4⟩:=(eD v).1 hv
  obtain ⟨l1,l2,l3⟩:=aCz hf
  rw [aC2] at hB ⊢
  rw [lC,zO,aNj,aLY]
  simp only [List.length_append] at hB
  rw [yJ (by omega) k0,aAu (by omega) k0]
  simp only [Option.bind_some]
  have hb0:(b++iO v.Kind).length=b.length+(iO v.Kind).length:=by simp
  by_cases h126:v.Kind=1∨v.Kind=2∨v.Kind=6
  ·
   simp only [h126,decide_true,cond_true,if_true] at hB ⊢
   rw [yJ (by omega) k1,aAu (by omega) k1]
   simp [Fl.next]
  ·
   simp only [h126,decide_false,cond_false,if_false] at hB ⊢
   by_cases h3:v.Kind=3
   ·
    have h3t:=tM v.Text
    simp only [h3,decide_true,cond_true,if_true] at hB hb0 ⊢
    rw [aI9 (by omega) (by omega),aEj (by omega) (by omega)]
    simp [Fl.next]
   ·
    simp only [h3,decide_false,cond_false,if_false] at hB ⊢
    by_cases h4:v.Kind=4
    ·
     have hok:lV (v.Items.length:Int):=⟨by omega,by have:=k3.1;omega⟩
     simp only [h4,true_or,decide_true,cond_true,if_true,List.length_append] at hB ⊢
     rw [yJ (by simp only [List.length_append];omega) hok,aAu (by simp only [List.length_append];omega) hok]
     simp only [Option.bind_some,Fl.next]
     rw [mT 1000000000000 v.Items kA _ (by simp only [List.length_append];omega) (fun s i hi hs=>?_) (fun s=>?_),mT 1000000000000 v.Items kA _ (by simp only [List.length_append];omega) (fun s i hi hs=>?_) (fun s=>?_)]
     ·
      simp
     ·
      unfold rT
      rw [bE,if_pos (by simp only;omega)]
      simp only [h4,Int.reduceEq,decide_false,cond_false,Option.bind_some]
      rw [eQ hi,Option.bind_some,(ih _ _ (by have:=jI (List.getElem_mem hi);omega) (k3.2.2 _ (List.getElem_mem hi)) (l3 _ (List.getElem_mem hi)) hs).2,Option.bind_some,kR hi k3.1]
     ·
      unfold rT
      rw [bE,if_neg (by simp only;omega)]
     ·
      unfold jG
      rw [bE,if_pos (by simp only;omega),eQ hi,Option.bind_some]
      simp only [h4,Int.reduceEq,decide_false,cond_false]
      rw [(ih _ _ (by have:=jI (List.getElem_mem hi);omega) (k3.2.2 _ (List.getElem_mem hi)) (l3 _ (List.getElem_mem hi)) hs).1,Option.bind_some,kR hi k3.1]
     ·
      unfold jG
      rw [bE,if_neg (by simp only;omega)]
    ·
     by_cases h5:v.Kind=5
     ·
      have hok:lV (v.Items.length:Int):=⟨by omega,by have:=k3.1;omega⟩
      have hlen:=l2 h5
      have hz:(v.Items.zip v.Keys).length=v.Items.length:=by simp [hlen]
      simp only [h5,or_true,Int.reduceEq,decide_true,cond_true,if_true,if_false,List.length_append] at hB ⊢
      rw [yJ (by simp only [List.length_append];omega) hok,aAu (by simp only [List.length_append];omega) hok]
      simp only [Option.bind_some,Fl.next]
      rw [mT 1000000000000 (v.Items.zip v.Keys) (fun p=>jY p.2++kA p.1) _ (by simp only [List.length_append];omega) (fun s i hi hs=>?_) (fun s=>?_),mT 1000000000000 (v.Items.zip v.Keys) (fun p=>jY p.2++kA p.1) _ (by simp only [List.length_append];omega) (fun s i hi hs=>?_) (fun s=>?_)]
      ·
       simp
      ·
       unfold rT
       rw [hz] at hi
       have hik:i<v.Keys.length:=by omega
       simp only [List.getElem_zip,List.length_append] at hs ⊢
       have:=tM v.Keys[i]
       rw [bE,if_pos (by omega)]
       simp only [h5,decide_true,cond_true]
       rw [eQ hik,Option.bind_some,aEj (by omega) (by omega),Option.bind_some,Option.bind_some,eQ hi,Option.bind_some,(ih _ _ (by have:=jI (List.getElem_mem hi);omega) (k3.2.2 _ (List.getElem_mem hi)) (l3 _ (List.getElem_mem hi)) (by simp only [List.length_append];omega)).2,Option.bind_some,kR hi k3.1]
       simp
      ·
       unfold rT
       rw [bE,if_neg (by simp only;omega)]
      ·
       unfold jG
       rw [hz] at hi
       have hik:i<v.Keys.length:=by omega
       simp only [List.getElem_zip,List.length_append] at hs ⊢
       have:=tM v.Keys[i]
       rw [bE,if_pos (by omega),eQ hi,Option.bind_some]
       simp only [h5,decide_true,cond_true]
       rw [eQ hik,Option.bind_some,aI9 (by omega) (by omega),Option.bind_some,(ih _ _ (by have:=jI (List.getElem_mem hi);omega) (k3.2.2 _ (List.getElem_mem hi)) (l3 _ (List.getElem_mem hi)) (by simp only [List.length_append];omega)).1,Option.bind_some,kR hi k3.1]
       simp
      ·
       unfold jG
       rw [bE,if_neg (by simp only;omega)]
     ·
      simp only [h4,h5,or_self,decide_false,cond_false,if_false,Option.bind_some,Fl.next]
      rw [qB (body:=jG (lC n) v) (s:=(b++iO v.Kind,0)) (r:=b++iO v.Kind) (by unfold jG;rw [l1 h4 h5];rfl)]
      simp
theorem aAv {b:List UInt8}{v:aC} (hv:bR v) (hB:(b++kA v).length≤1000000000000):pP b v=some (b++if xE true v then kA v else []):=by
 unfold pP aAi
 simp only [List.length_append] at hB
 rw [xD (by omega),aAw hv]
 cases hf:xE true v
 ·
  simp
 ·
  simp only [Option.bind_some,Bool.not_true,cond_false,if_true]
  rw [qP (rM v) fun n hn=>(aFf n v b hn hv hf (by simp only [List.length_append];omega)).1,Option.bind_some]
theorem aCP {b:List UInt8}{v:aC} (hv:bR v) (hB:(b++kA v).length≤1000000000000):vH b v=some (b++if xE true v then kA v else []):=by
 unfold vH aHi
 simp only [List.length_append] at hB
 rw [jM (by simp;omega),yN hv]
 cases hf:xE true v
 ·
  simp
 ·
  simp only [Option.bind_some,Bool.not_true,cond_false,if_true,List.nil_append]
  rw [qP (rM v) fun n hn=>(aFf n v b hn hv hf (by simp only [List.length_append];omega)).2,Option.bind_some]
end Go.Proofs.YtnigjppddilpcaaGreatDoor
namespace Go.Proofs.YtnigjppddilpcaaGreatDoor
open Go Abs
set_option linter.unusedSimpArgs false
set_option linter.unusedVariables false
end Go.Proofs.YtnigjppddilpcaaGreatDoor
namespace Go.Proofs.YtnigjppddilpcaaGreatDoor
open Go Abs
set_option linter.unusedSimpArgs false
set_option linter.unusedVariables false
def aFG (o:bL):List UInt8:=jY o.Queue++iO o.ToStart++iO o.ToClose++iO o.Total++iO o.Beat++iO o.First++iO o.Coef++iO o.Most++iO o.Attempts++iO o.Fatal.length++o.Fatal.flatMap jY
def sO (c:aP):List UInt8:=iO c.Kind++iO c.Seq++jY c.Name++jY c.Key++iO c.N++kA c.Data++aFG c.Opts
theorem aHE {α:Type} (f:α→List UInt8) (m:Nat):∀ (l:List α),(∀ x∈l,(f x).length≤m)→(l.flatMap f).length≤l.length*m
 | [],_=>by simp
 | x :: l,h=>by
  have h1:=h x (by simp)
  have h2:=aHE f m l (fun y hy=>h y (by simp [hy]))
  simp only [List.flatMap_cons,List.length_append,List.length_cons,Nat.add_mul];omega
theorem aB5 {s:List UInt8} (h:lQ s=true):s.length≤64:=by
 unfold lQ at h
 simp only [Bool.and_eq_true,decide_eq_true_eq] at h
 exact h.1.1.2
theorem xL {o:bL} (h:mH o=true):o.Queue.length≤64∧o.Fatal.length≤64∧∀ s∈o.Fatal,s.length≤4096:=by
 unfold mH at h
 simp only [Bool.and_eq_true,Bool.or_eq_true,decide_eq_true_eq,Bool.not_eq_true',List.any_eq_false,iW,decide_eq_false_iff_not] at h
 refine ⟨?_,h.1.1.1.1.2,fun s hs=>by have:=h.2 s hs;omega⟩
 rcases h.1.1.1.1.1 with hq | hq
 ·
  rw [hq];simp
 ·
  exact aB5 hq
theorem aFH {o:bL} (h:eU o) (hp:mH o=true):(aFG o).length≤300000:=by
 obtain ⟨h1,h2,h3⟩:=xL hp
 obtain ⟨k0,k1,k2,k3,k4,k5,k6,k7,k8,k9⟩:=h
 have a0:=pC (s:=o.Queue) (by omega)
 have a1:=iL k1
 have a2:=iL k2
 have a3:=iL k3
 have a4:=iL k4
 have a5:=iL k5
 have a6:=iL k6
 have a7:=iL k7
 have a8:=iL k8
 have a9:=zA k9.1
 have a10:=aHE jY 4106 o.Fatal (fun s hs=>by have:=h3 s hs;have:=pC (s:=s) (by omega);omega)
 unfold aFG
 simp only [List.length_append]
 omega
theorem aMd {b:List UInt8}{o:bL} (h:eU o) (hp:mH o=true) (hb:b.length≤100000000000):oR b o=some (b++aFG o):=by
 obtain ⟨h1,h2,h3⟩:=xL hp
 have hl:=aFH h hp
 obtain ⟨k0,k1,k2,k3,k4,k5,k6,k7,k8,k9⟩:=h
 have hok:lV (o.Fatal.length:Int):=⟨by omega,by omega⟩
 unfold aFG at hl ⊢
 simp only [List.length_append] at hl
 unfold oR
 simp only [kQ,Option.bind_some]
 rw [aI9 (by first | omega | (simp only [List.length_append];omega)) (by omega),Option.bind_some,yJ (by first | omega | (simp only [List.length_append];omega)) k1,Option.bind_some,yJ (by first | omega | (simp only [List.length_append];omega)) k2,Option.bind_some,
  yJ (by first | omega | (simp only [List.length_append];omega)) k3,Option.bind_some,yJ (by first | omega | (simp only [List.length_append];omega)) k4,Option.bind_some,yJ (by first | omega | (simp only [List.length_append];omega)) k5,Option.bind_some,
  yJ (by first | omega | (simp only [List.length_append];omega)) k6,Option.bind_some,yJ (by first | omega | (simp only [List.length_append];omega)) k7,Option.bind_some,yJ (by first | omega | (simp only [List.length_append];omega)) k8,Option.bind_some,
  yJ (by first | omega | (simp only [List.length_append];omega)) hok,Option.bind_some]
 rw [mT 1000000000000 o.Fatal jY _ (by first | omega | (simp only [List.length_append];omega)) (fun s i hi hs=>?_) (fun s=>?_)]
 ·
  simp
 ·
  unfold oE
  simp only [List.length_append] at hs
  have:=tM o.Fatal[i]
  rw [bE,if_pos (by simp only;omega),eQ hi,Option.bind_some,aI9 (by simp only;omega) (by omega),Option.bind_some,kR hi k9.1]
 ·
  unfold oE
  rw [bE,if_neg (by simp only;omega)]
theorem aCf {b:List UInt8}{o:bL} (h:eU o) (hb:b.length≤100000000000):qS b o=some (b++if mH o then aFG o else []):=by
 unfold qS
 rw [jM (by simp;omega),rW h]
 cases hp:mH o
 ·
  simp
 ·
  obtain ⟨h1,h2,h3⟩:=xL hp
  have hl:=aFH h hp
  obtain ⟨k0,k1,k2,k3,k4,k5,k6,k7,k8,k9⟩:=h
  have hok:lV (o.Fatal.length:Int):=⟨by omega,by omega⟩
  unfold aFG at hl ⊢
  simp only [List.length_append] at hl
  simp only [Option.bind_some,List.nil_append,Bool.not_true,cond_false,if_true]
  rw [aEj (by omega) (by omega),Option.bind_some]
  have hns:∀ n∈[o.ToStart,o.ToClose,o.Total,o.Beat,o.First,o.Coef,o.Most,o.Attempts,(o.Fatal.length:Int)],lV n:=by
   simp only [List.mem_cons,List.not_mem_nil,or_false]
   rintro n (rfl | rfl | rfl | rfl | rfl | rfl | rfl | rfl | rfl) <;> assumption
  rw [mT 1000000000000 [o.ToStart,o.ToClose,o.Total,o.Beat,o.First,o.Coef,o.Most,o.Attempts,(o.Fatal.length:Int)] iO _ (by simp only [List.length_append,List.flatMap_cons,List.flatMap_nil,List.length_nil];omega) (fun s i hi hs=>?_) (fun s=>?_),Option.bind_some]
  ·
   rw [mT 1000000000000 o.Fatal jY _ (by simp only [List.length_append,List.flatMap_cons,List.flatMap_nil,List.length_nil];omega) (fun s i hi hs=>?_) (fun s=>?_)]
   ·
    simp
   ·
    unfold oB
    simp only [List.length_append] at hs
    have:=tM o.Fatal[i]
    rw [bE,if_pos (by simp only;omega),eQ hi,Option.bind_some,aEj (by simp only;omega) (by omega),Option.bind_some,kR hi k9.1]
   ·
    unfold oB
    rw [bE,if_neg (by simp only;omega)]
  ·
   unfold oA
   simp only [List.length_append] at hs
   rw [bE,if_pos (by simp only;omega),eQ hi,Option.bind_some,aAu (by simp only;omega) (hns _ (List.getElem_mem hi)),Option.bind_some,kR hi (by simp)]
  ·
   unfold oA
   rw [bE,if_neg (by simp only;omega)]
theorem kZ {v:aC} (h:nA v=true):shr v=true∧xE false v=true∧xE true v=true:=by
 unfold nA wth at h
 simp only [Bool.and_eq_true] at h
 refine ⟨h.1.2,h.2,?_⟩
 have:=h.2
 rw [aM8 (rM v) v (Nat.le_refl _)] at this
 simp only [Bool.and_eq_true] at this
 exact this.1
theorem rK {c:aP} (h:iK c=true):nA c.Data=true∧mH c.Opts=true:=by
 unfold iK at h
 simp only [Bool.and_eq_true] at h
 exact ⟨h.1.1.1.1.1.2,h.1.1.1.1.2⟩
end Go.Proofs.YtnigjppddilpcaaGreatDoor
namespace Go.Proofs.YtnigjppddilpcaaGreatDoor
open Go Abs
set_option linter.unusedSimpArgs false
set_option linter.unusedVariables false
theorem uE {r:aD}{n:Int}{rest:List UInt8} (h:At r (iO n++rest)) (hn:lV n):∃ r',dZ r=some (n,r')∧At r' rest:=by
 obtain ⟨r',h1,h2⟩:=aB1 (low:=-9223372036854775808) (high:=9223372036854775807) h hn hn.1 hn.2
 exact ⟨r',by unfold dZ;rw [h1];rfl,h2⟩
theorem aI6 {r:aD}{o:bL}{rest:List UInt8} (h:At r (aFG o++rest)) (ho:eU o) (hp:mH o=true):∃ r',fT r=some (o,r')∧At r' rest:=by
 obtain ⟨p1,p2,p3⟩:=xL hp
 obtain ⟨k0,k1,k2,k3,k4,k5,k6,k7,k8,k9⟩:=id ho
 have hok:lV (o.Fatal.length:Int):=⟨by omega,by omega⟩
 unfold aFG at h
 simp only [List.append_assoc] at h
 obtain ⟨r0,a0,l0⟩:=yX (most:=4096) h (by omega)
 obtain ⟨r1,a1,l1⟩:=uE l0 k1
 obtain ⟨r2,a2,l2⟩:=uE l1 k2
 obtain ⟨r3,a3,l3⟩:=uE l2 k3
 obtain ⟨r4,a4,l4⟩:=uE l3 k4
 obtain ⟨r5,a5,l5⟩:=uE l4 k5
 obtain ⟨r6,a6,l6⟩:=uE l5 k6
 obtain ⟨r7,a7,l7⟩:=uE l6 k7
 obtain ⟨r8,a8,l8⟩:=uE l7 k8
 obtain ⟨r9,a9,l9⟩:=uE l8 hok
 unfold fT
 rw [a0]
 simp only [Option.bind_some,lF]
 rw [a1]
 simp only [Option.bind_some]
 rw [a2]
 simp only [Option.bind_some]
 rw [a3]
 simp only [Option.bind_some]
 rw [a4]
 simp only [Option.bind_some]
 rw [a5]
 simp only [Option.bind_some]
 rw [a6]
 simp only [Option.bind_some]
 rw [a7]
 simp only [Option.bind_some]
 rw [a8]
 simp only [Option.bind_some]
 rw [a9]
 simp only [Option.bind_some]
 rw [mD l9,mF]
 have hin:inB (o.Fatal.length:Int) 0 64=true:=by unfold inB;simp;omega
 rw [hin]
 simp only [Option.bind_some,decide_true,beq_self_eq_true,gd,if_true,Bool.not_true,cond_true,cond_false]
 obtain ⟨X,g1,g2⟩:=qK (body:=fB ((o.Fatal.length:Int),r9))
  (fun s=>∃ (i:Nat) (r':aD),i≤o.Fatal.length∧s=((i:Int),r',o.Fatal.take i)∧At r' ((o.Fatal.drop i).flatMap jY++rest)) (fun s=>o.Fatal.length - s.1.toNat)
  (fun X=>∃ r',X=(r',o.Fatal)∧At r' rest) (by
   rintro s ⟨i,r',hi,rfl,hat'⟩
   unfold fB
   by_cases hlt:i<o.Fatal.length
   ·
    rw [aBx jY _ i hlt,List.append_assoc] at hat'
    obtain ⟨r3,f1,f2⟩:=yX (most:=4096) hat' (by have:=p3 _ (List.getElem_mem hlt);omega)
    refine .inl ⟨((i+1:Nat),r3,o.Fatal.take (i+1)),?_,⟨i+1,r3,by omega,rfl,f2⟩,by simp;omega⟩
    simp only
    rw [bE,if_pos (by omega),mD hat']
    simp only [Option.bind_some,decide_true,cond_true,Fl.next]
    rw [f1]
    simp only [Option.bind_some]
    rw [jM (by simp;omega),kR hlt (by omega),← List.take_succ_eq_append_getElem hlt]
    rfl
   ·
    obtain rfl:i=o.Fatal.length:=by omega
    refine .inr ⟨(r',o.Fatal),?_,r',rfl,by simpa using hat'⟩
    simp only
    rw [bE,if_neg (by omega),List.take_length];rfl) ((0:Int),r9,[]) ⟨0,r9,by omega,by simp,by simpa using l9⟩
 obtain ⟨r',rfl,hat'⟩:=g2
 rw [g1]
 simp only [Option.bind_some]
 have hokP:eU ⟨o.Queue,o.ToStart,o.ToClose,o.Total,o.Beat,o.First,o.Coef,o.Most,o.Attempts,o.Fatal⟩:=ho
 have hpP:mH ⟨o.Queue,o.ToStart,o.ToClose,o.Total,o.Beat,o.First,o.Coef,o.Most,o.Attempts,o.Fatal⟩=true:=hp
 rw [mD hat',vS hokP,hpP]
 refine ⟨r',?_,hat'⟩
 simp only [Option.bind_some,decide_true,beq_self_eq_true,gd,if_true,Bool.not_true,cond_true,cond_false]
 rw [mD hat']
 rfl
theorem xR {r:aD}{v:aC}{rest:List UInt8} (h:At r (kA v++rest)) (hv:bR v) (hr:nA v=true) (hn:nsz v≤1200):∃ r',jZ r=some (v,r')∧At r' rest:=by
 obtain ⟨q1,q2,q3⟩:=kZ hr
 obtain ⟨d1,d2⟩:=aKZ (rM v) v (Nat.le_refl _) (by omega)
 have hw:wth v=true:=by unfold nA at hr;simp only [Bool.and_eq_true] at hr;exact hr.1
 unfold wth at hw
 rw [d1,d2] at hw
 simp only [Bool.and_eq_true,decide_eq_true_eq] at hw
 obtain ⟨r',g1,g2⟩:=aKM (2*rM v) v 1 0 r rest h hv q2 q1 (by omega) (by omega) (by omega) (Nat.le_refl _)
 have g1:=rD g1
 simp only [Int.natCast_zero] at g1
 refine ⟨r',?_,g2⟩
 unfold jZ
 rw [mD h]
 simp only [Option.bind_some,Int.reduceEq,decide_false,cond_false,Fl.next]
 rw [g1]
 simp only [Option.bind_some]
 rw [mD g2]
 rfl
end Go.Proofs.YtnigjppddilpcaaGreatDoor
namespace Go.Proofs.YtnigjppddilpcaaGreatDoor
open Go Abs
set_option linter.unusedSimpArgs false
set_option linter.unusedVariables false
theorem aAN {c:aP} (hr:iK c=true):c.Name.length≤4096∧c.Key.length≤64:=by
 unfold iK at hr
 simp only [Bool.and_eq_true,Bool.or_eq_true,Bool.not_eq_true'] at hr
 obtain ⟨⟨⟨⟨⟨⟨⟨_,hb⟩,_⟩,_⟩,_⟩,hk⟩,hn⟩,_⟩:=hr
 constructor
 ·
  rcases hn with hn | hn
  ·
   unfold aBK at hb
   simp only [Bool.and_eq_true,Bool.or_eq_true,hn,decide_eq_true_eq] at hb
   have:=hb.1.1.1.1.2
   simp at this
   rw [this];simp
  ·
   by_cases h12:c.Kind=12
   ·
    rw [if_pos h12] at hn
    simp only [iW,Bool.not_eq_true',decide_eq_false_iff_not] at hn
    omega
   ·
    rw [if_neg h12] at hn
    have:=aB5 hn
    omega
 ·
  rcases hk with hk | hk
  ·
   unfold aBK at hb
   simp only [Bool.and_eq_true,Bool.or_eq_true,hk,decide_eq_true_eq] at hb
   have:=hb.1.1.1.2
   simp at this
   rw [this];simp
  ·
   unfold jH at hk
   simp only [Bool.and_eq_true,decide_eq_true_eq] at hk
   exact hk.1.2
theorem aG2 {c:aP} (h:eP c) (hr:iK c=true) (hn:nsz c.Data≤1200):(sO c).length≤11000000∧(kA c.Data).length≤10100000:=by
 obtain ⟨s1,s2⟩:=aAN hr
 obtain ⟨r1,r2⟩:=rK hr
 obtain ⟨k0,k1,k2,k3,k4,k5,k6⟩:=h
 have a0:=iL k0
 have a1:=iL k1
 have a2:=pC (s:=c.Name) (by omega)
 have a3:=pC (s:=c.Key) (by omega)
 have a4:=iL k4
 have a5:=aJB (rM c.Data) c.Data (Nat.le_refl _) k5 (kZ r1).1
 have a6:=aFH k6 r2
 unfold sO
 simp only [List.length_append]
 omega
theorem aD5 {b:List UInt8}{c:aP} (h:eP c) (hr:iK c=true) (hn:nsz c.Data≤1200) (hb:b.length≤50000000000):oO b c=some (b++sO c)∧zW b c=some (b++sO c):=by
 obtain ⟨r1,r2⟩:=rK hr
 obtain ⟨s1,s2⟩:=aAN hr
 have hl:=aG2 h hr hn
 constructor
 ·
  unfold oO
  rw [xD (by omega),pI h,hr]
  obtain ⟨k0,k1,k2,k3,k4,k5,k6⟩:=h
  unfold sO at hl ⊢
  simp only [List.length_append] at hl
  simp only [Option.bind_some,Bool.not_true,cond_false,if_true]
  rw [yJ (by omega) k0,Option.bind_some,yJ (by first | omega | (simp only [List.length_append];omega)) k1,Option.bind_some,aI9 (by first | omega | (simp only [List.length_append];omega)) (by omega),Option.bind_some,aI9 (by first | omega | (simp only [List.length_append];omega)) (by omega),Option.bind_some,
   yJ (by first | omega | (simp only [List.length_append];omega)) k4,Option.bind_some,aAv k5 (by first | omega | (simp only [List.length_append];omega)),(kZ r1).2.2,Option.bind_some]
  rw [aMd k6 r2 (by simp only [if_true,List.length_append];omega)]
  simp
 ·
  unfold zW
  rw [jM (by simp;omega),xZ h,hr]
  obtain ⟨k0,k1,k2,k3,k4,k5,k6⟩:=h
  unfold sO at hl ⊢
  simp only [List.length_append] at hl
  simp only [Option.bind_some,Bool.not_true,cond_false,if_true,List.nil_append]
  rw [aAu (by omega) k0,Option.bind_some,aAu (by first | omega | (simp only [List.length_append];omega)) k1,Option.bind_some,aEj (by first | omega | (simp only [List.length_append];omega)) (by omega),Option.bind_some,aEj (by first | omega | (simp only [List.length_append];omega)) (by omega),Option.bind_some,
   aAu (by first | omega | (simp only [List.length_append];omega)) k4,Option.bind_some,aCP k5 (by first | omega | (simp only [List.length_append];omega)),(kZ r1).2.2,Option.bind_some]
  rw [aCf k6 (by simp only [if_true,List.length_append];omega),r2]
  simp
theorem aMV {r:aD}{c:aP}{rest:List UInt8} (h:At r (sO c++rest)) (hc:eP c) (hr:iK c=true) (hn:nsz c.Data≤1200):∃ r',iX r=some (c,r')∧At r' rest:=by
 obtain ⟨c1,c2⟩:=rK hr
 obtain ⟨s1,s2⟩:=aAN hr
 obtain ⟨k0,k1,k2,k3,k4,k5,k6⟩:=id hc
 unfold sO at h
 simp only [List.append_assoc] at h
 obtain ⟨r0,a0,l0⟩:=uE h k0
 obtain ⟨r1,a1,l1⟩:=uE l0 k1
 obtain ⟨r2,a2,l2⟩:=yX (most:=4096) l1 (by omega)
 obtain ⟨r3,a3,l3⟩:=yX (most:=4096) l2 (by omega)
 obtain ⟨r4,a4,l4⟩:=uE l3 k4
 obtain ⟨r5,a5,l5⟩:=xR l4 k5 c1 hn
 obtain ⟨r6,a6,l6⟩:=aI6 l5 k6 c2
 unfold iX
 rw [a0]
 simp only [Option.bind_some]
 rw [a1]
 simp only [Option.bind_some]
 rw [a2]
 simp only [Option.bind_some]
 rw [a3]
 simp only [Option.bind_some]
 rw [a4]
 simp only [Option.bind_some]
 rw [a5]
 simp only [Option.bind_some]
 rw [a6]
 simp only [Option.bind_some]
 have e:(⟨c.Kind,c.Seq,c.Name,c.Key,c.N,c.Data,c.Opts⟩:aP)=c:=rfl
 rw [mD l6,e,pI hc,hr]
 refine ⟨r6,?_,l6⟩
 simp only [Option.bind_some,decide_true,beq_self_eq_true,gd,if_true,Bool.not_true,cond_true,cond_false]
 rw [mD l6]
 rfl
end Go.Proofs.YtnigjppddilpcaaGreatDoor
namespace Go.Proofs.YtnigjppddilpcaaGreatDoor
open Go Abs
set_option linter.unusedSimpArgs false
set_option linter.unusedVariables false
theorem aIx {α:Type}{row:α→List PV}:∀ {l:List α}{x:α},x∈l→PV.bulkRow (row x)≤PV.bulkRows (l.map row)
 | [],x,h=>by simp at h
 | y :: l,x,h=>by
  simp only [List.map_cons,PV.bulkRows]
  rcases List.mem_cons.1 h with rfl | h
  ·
   omega
  ·
   have:=aIx (row:=row) h;omega
theorem aKO (v:aC):PV.bulkRow (bM v)=v.Text.length+PV.bulkRows (v.Items.map bM)+PV.bulkRows (v.Keys.map gL)+5:=by
 rw [eT]
 simp only [eF,PV.bulkRow,PV.bulk,PV.ls]
 omega
end Go.Proofs.YtnigjppddilpcaaGreatDoor
namespace Go.Proofs.YtnigjppddilpcaaGreatDoor
open Go Abs
set_option linter.unusedSimpArgs false
set_option linter.unusedVariables false
end Go.Proofs.YtnigjppddilpcaaGreatDoor
namespace Go.Proofs.YtnigjppddilpcaaGreatDoor
open Go Abs
set_option linter.unusedSimpArgs false
set_option linter.unusedVariables false
end Go.Proofs.YtnigjppddilpcaaGreatDoor
namespace Go.Proofs.YtnigjppddilpcaaGreatDoor
open Go Abs
set_option linter.unusedSimpArgs false
set_option linter.unusedVariables false
end Go.Proofs.YtnigjppddilpcaaGreatDoor
namespace Go.Proofs.YtnigjppddilpcaaGreatDoor
open Go Abs
set_option linter.unusedSimpArgs false
set_option linter.unusedVariables false
end Go.Proofs.YtnigjppddilpcaaGreatDoor
namespace Go.Proofs.YtnigjppddilpcaaGreatDoor
open Go Abs
set_option linter.unusedSimpArgs false
set_option linter.unusedVariables false
def wf {α:Type} (f:Int→α→Int):List α→Int→Int
 | [],a=>a
 | x :: l,a=>if 0≤a then wf f l (f a x) else a
end Go.Proofs.YtnigjppddilpcaaGreatDoor
namespace Go.Proofs.YtnigjppddilpcaaGreatDoor
open Go Abs
set_option linter.unusedSimpArgs false
set_option linter.unusedVariables false
set_option maxRecDepth 20000
end Go.Proofs.YtnigjppddilpcaaGreatDoor
namespace Go.Proofs.YtnigjppddilpcaaGreatDoor
open Go Abs
set_option linter.unusedSimpArgs false
set_option linter.unusedVariables false
end Go.Proofs.YtnigjppddilpcaaGreatDoor
namespace Go.Proofs.YtnigjppddilpcaaGreatDoor
open Go Abs
set_option linter.unusedSimpArgs false
set_option linter.unusedVariables false
end Go.Proofs.YtnigjppddilpcaaGreatDoor
namespace Go.Proofs.YtnigjppddilpcaaGreatDoor
open Go Abs
set_option linter.unusedSimpArgs false
set_option linter.unusedVariables false
set_option maxRecDepth 20000
end Go.Proofs.YtnigjppddilpcaaGreatDoor
namespace Go.Proofs.YtnigjppddilpcaaGreatDoor
open Go Abs
set_option linter.unusedSimpArgs false
set_option linter.unusedVariables false
set_option maxRecDepth 20000
end Go.Proofs.YtnigjppddilpcaaGreatDoor
namespace Go.Proofs.YtnigjppddilpcaaGreatDoor
open Go Abs
set_option linter.unusedSimpArgs false
set_option linter.unusedVariables false
def aQ8 (t:List UInt8) (ks:List (List UInt8)):Int:=ks.foldl (fun a k=>IntKind.i64.wrap (a+IntKind.i64.wrap (Int.tdiv (k.length:Int) 8))) (IntKind.i64.wrap (IntKind.i64.wrap (1+IntKind.i64.wrap (Int.tdiv (t.length:Int) 8))+(ks.length:Int)))
mutual
def s23:aC→Int
 | ⟨_,_,t,l,ks⟩=>aQz l (aQ8 t ks)
def aQz:List aC→Int→Int
 | [],a=>a
 | x :: l,a=>aQz l (IntKind.i64.wrap (a+s23 x))
end
end Go.Proofs.YtnigjppddilpcaaGreatDoor
namespace Go.Proofs.YtnigjppddilpcaaGreatDoor
open Go Abs
set_option linter.unusedSimpArgs false
set_option linter.unusedVariables false
theorem aIW:∀ (n:Nat) (v:aC),rM v≤n→5*nsz v≤PV.bulkRow (bM v):=by
 intro n
 induction n with
 | zero=>intro v h;have:=hD v;omega
 | succ n ih =>
  intro v h
  have hh:=hD v
  have key:∀ l:List aC,aDp l≤n→5*iZ l≤PV.bulkRows (l.map bM):=by
   intro l
   induction l with
   | nil=>intro _;simp [iZ]
   | cons x l ihl =>
    intro hl
    simp only [aDp] at hl
    have a1:=ihl (by omega)
    have a2:=ih x (by omega)
    simp only [iZ,List.map_cons,PV.bulkRows];omega
  have:=key v.Items (by omega)
  rw [aKO,aB6];omega
theorem aDt {v:aC} (hr:nA v=true) (hb:nsz v≤1000000):nsz v≤1200:=by
 obtain ⟨d1,d2⟩:=aKZ (rM v) v (Nat.le_refl _) hb
 have hw:wth v=true:=by unfold nA at hr;simp only [Bool.and_eq_true] at hr;exact hr.1
 unfold wth at hw
 rw [d1,d2] at hw
 simp only [Bool.and_eq_true,decide_eq_true_eq] at hw
 omega
end Go.Proofs.YtnigjppddilpcaaGreatDoor
namespace Go.Proofs.YtnigjppddilpcaaGreatDoor
open Go Abs
set_option linter.unusedSimpArgs false
set_option linter.unusedVariables false
theorem aPq (c:aP):PV.bulkRow (bM c.Data)≤PV.bulkRow (cH c):=by
 rw [aKO]
 simp only [cH,PV.bulkRow,PV.bulk,PV.ls]
 omega
theorem aPQ (q:aY):q.Workflow.length+q.Run.length+q.ID.length+q.Name.length+q.Parent.length+PV.bulkRow (bM q.Data)+PV.bulkRows (q.Commands.map cH)≤PV.bulkRow (fX q):=by
 rw [aKO]
 simp only [fX,PV.bulkRow,PV.bulk,PV.ls]
 omega
def qsm (q:aY):Prop:=q.Workflow.length≤2000000∧q.Run.length≤2000000∧q.ID.length≤2000000∧q.Name.length≤2000000∧q.Parent.length≤2000000∧nsz q.Data≤1000000∧∀ c∈q.Commands,nsz c.Data≤1000000
theorem aKs {q:aY} (hb:PV.bulkRow (fX q)≤1048576):qsm q:=by
 have h1:=aPQ q
 have h2:=aIW _ q.Data (Nat.le_refl _)
 refine ⟨by omega,by omega,by omega,by omega,by omega,by omega,fun c hc=>?_⟩
 have h3:=aIx (row:=cH) hc
 have h4:=aPq c
 have h5:=aIW _ c.Data (Nat.le_refl _)
 omega
def sK (q:aY):List (List UInt8):=[q.Workflow,q.Run,q.ID,q.Name]
def uA (q:aY):List Int:=[q.Token,q.Event,q.Seq,q.N]
def uN (q:aY):List UInt8:=iO q.Kind++iO q.Time++(sK q).flatMap jY++(uA q).flatMap iO++kA q.Data++iO q.Commands.length++q.Commands.flatMap sO++jY q.Parent
theorem rS {q:aY} (h:mU q=true):nA q.Data=true∧q.Commands.length≤200∧q.Commands.all iK=true:=by
 unfold mU at h
 simp only [Bool.and_eq_true,decide_eq_true_eq] at h
 obtain ⟨_,_,_,h4,_,_,_,_,_,_,_,h12,h13,_⟩:=h
 exact ⟨h4,h12,h13⟩
theorem aNC {q:aY} (h:fO q) (hs:qsm q) (hr:mU q=true):∀ c∈q.Commands,eP c∧iK c=true∧nsz c.Data≤1200:=fun c hc=>by
 obtain ⟨r1,r2,r3⟩:=rS hr
 have hcr:=List.all_eq_true.1 r3 c hc
 exact ⟨h.2.2.2.2.2.2.2.2.2.2.2.2.1.2.2 c hc,hcr,aDt (rK hcr).1 (hs.2.2.2.2.2.2 c hc)⟩
theorem aND {q:aY} (h:fO q) (hs:qsm q) (hr:mU q=true):((sK q).flatMap jY).length≤9000000∧((uA q).flatMap iO).length≤40∧(kA q.Data).length≤10100000∧(q.Commands.flatMap sO).length≤2200000000∧(∀ n∈uA q,lV n):=by
 obtain ⟨r1,r2,r3⟩:=rS hr
 have hcm:=aNC h hs hr
 obtain ⟨k0,k1,k2,k3,k4,k5,k6,k7,k8,k9,k10,k11,k12,k13⟩:=h
 obtain ⟨s1,s2,s3,s4,s5,s6,s7⟩:=hs
 have a1:=pC (s:=q.Workflow) (by omega)
 have a2:=pC (s:=q.Run) (by omega)
 have a3:=pC (s:=q.ID) (by omega)
 have a4:=pC (s:=q.Name) (by omega)
 have b1:=iL k6
 have b2:=iL k7
 have b3:=iL k8
 have b4:=iL k9
 have c1:=aJB (rM q.Data) q.Data (Nat.le_refl _) k10 (kZ r1).1
 have c2:=aDt r1 s6
 have d1:=aHE sO 11000000 q.Commands (fun c hc=>by obtain ⟨e1,e2,e3⟩:=hcm c hc;exact (aG2 e1 e2 e3).1)
 refine ⟨?_,?_,by omega,by omega,?_⟩
 ·
  simp only [sK,List.flatMap_cons,List.flatMap_nil,List.length_append,List.length_nil];omega
 ·
  simp only [uA,List.flatMap_cons,List.flatMap_nil,List.length_append,List.length_nil];omega
 ·
  simp only [uA,List.mem_cons,List.not_mem_nil,or_false]
  rintro n (rfl | rfl | rfl | rfl) <;> assumption
noncomputable def aEu (q:aY):List UInt8 × Int:=if mU q then (if 65536<(uN q).length then ([],6) else (uN q,0)) else ([],3)
theorem aCa {q:aY} (h:fO q) (hs:qsm q):kG q=some (aEu q)∧zX q=some (aEu q):=by
 cases hr:mU q
 ·
  unfold kG zX aEu
  rw [pM h,yA h,← aDx,hr]
  exact ⟨rfl,rfl⟩
 ·
  obtain ⟨r1,r2,r3⟩:=rS hr
  have hcm:=aNC h hs hr
  obtain ⟨l1,l2,l3,l4,l5⟩:=aND h hs hr
  have hh:=h
  obtain ⟨k0,k1,k2,k3,k4,k5,k6,k7,k8,k9,k10,k11,k12,k13⟩:=h
  obtain ⟨s1,s2,s3,s4,s5,s6,s7⟩:=hs
  have b1:=iL k0
  have b2:=iL k1
  have okn:lV (q.Commands.length:Int):=⟨by omega,by omega⟩
  have b3:=iL okn
  have b4:=pC (s:=q.Parent) (by omega)
  have hst:∀ s∈sK q,s.length≤2000000:=by
   simp only [sK,List.mem_cons,List.not_mem_nil,or_false]
   rintro s (rfl | rfl | rfl | rfl) <;> assumption
  have fin:∀ x:List UInt8,x=uN q→cond (decide ((65536:Int)<(x.length:Int))) (some (([]:List UInt8),(6:Int))) (some (x,(0:Int)))=some (aEu q):=fun x hx=>by
   subst hx
   unfold aEu
   rw [hr,if_pos rfl,bE]
   by_cases hl:65536<(uN q).length
   ·
    rw [if_pos (by omega),if_pos hl]
   ·
    rw [if_neg (by omega),if_neg hl]
  constructor
  ·
   unfold kG
   rw [pM hh,hr]
   simp only [Option.bind_some,Bool.not_true,cond_false]
   rw [yJ (by simp) k0,Option.bind_some,List.nil_append,yJ (by omega) k1,Option.bind_some,
    mT 1000000000000 (sK q) jY _ (by simp only [List.length_append];omega) (fun s i hi hs=>?_) (fun s=>?_),Option.bind_some,
    mT 1000000000000 (uA q) iO _ (by simp only [List.length_append];omega) (fun s i hi hs=>?_) (fun s=>?_),Option.bind_some,
    aAv k10 (by simp only [List.length_append];omega),(kZ r1).2.2,if_pos rfl,Option.bind_some,yJ (by simp only [List.length_append];omega) okn,Option.bind_some,
    mT 40000000000 q.Commands sO _ (by simp only [List.length_append];omega) (fun s i hi hs=>?_) (fun s=>?_),Option.bind_some,aI9 (by simp only [List.length_append];omega) (by omega),Option.bind_some]
   ·
    exact fin _ (by unfold uN;simp only [List.append_assoc])
   ·
    unfold oK
    obtain ⟨e1,e2,e3⟩:=hcm _ (List.getElem_mem hi)
    simp only [List.length_append] at hs
    rw [bE,if_pos (by simp only;omega),eQ hi,Option.bind_some,(aD5 e1 e2 e3 (by simp only;omega)).1,Option.bind_some,kR hi hh.2.2.2.2.2.2.2.2.2.2.2.2.1.1]
   ·
    unfold oK
    rw [bE,if_neg (by simp only;omega)]
   ·
    unfold oJ
    simp only [List.length_append] at hs
    rw [bE,if_pos (by simp only [uA] at hi;simp only;omega),show jV [q.Token,q.Event,q.Seq,q.N] (i:Int)=some (uA q)[i] from eQ hi,Option.bind_some,yJ (by simp only;omega) (l5 _ (List.getElem_mem hi)),Option.bind_some,kR hi (by simp [uA])]
   ·
    unfold oJ
    rw [bE,if_neg (by simp [uA])]
   ·
    unfold oI
    simp only [List.length_append] at hs
    have:=hst _ (List.getElem_mem hi)
    rw [bE,if_pos (by simp only [sK] at hi;simp only;omega),show jV [q.Workflow,q.Run,q.ID,q.Name] (i:Int)=some (sK q)[i] from eQ hi,Option.bind_some,aI9 (by simp only;omega) (by omega),Option.bind_some,kR hi (by simp [sK])]
   ·
    unfold oI
    rw [bE,if_neg (by simp [sK])]
  ·
   unfold zX
   rw [yA hh,← aDx,hr]
   simp only [Option.bind_some,Bool.not_true,cond_false]
   rw [aAu (by simp) k0,Option.bind_some,List.nil_append,aAu (by omega) k1,Option.bind_some,
    mT 1000000000000 (sK q) jY _ (by simp only [List.length_append];omega) (fun s i hi hs=>?_) (fun s=>?_),Option.bind_some,
    mT 1000000000000 (uA q) iO _ (by simp only [List.length_append];omega) (fun s i hi hs=>?_) (fun s=>?_),Option.bind_some,
    aCP k10 (by simp only [List.length_append];omega),(kZ r1).2.2,if_pos rfl,Option.bind_some,aAu (by simp only [List.length_append];omega) okn,Option.bind_some,
    mT 40000000000 q.Commands sO _ (by simp only [List.length_append];omega) (fun s i hi hs=>?_) (fun s=>?_),Option.bind_some,aEj (by simp only [List.length_append];omega) (by omega),Option.bind_some]
   ·
    exact fin _ (by unfold uN;simp only [List.append_assoc])
   ·
    unfold uU
    obtain ⟨e1,e2,e3⟩:=hcm _ (List.getElem_mem hi)
    simp only [List.length_append] at hs
    rw [bE,if_pos (by simp only;omega),eQ hi,Option.bind_some,(aD5 e1 e2 e3 (by simp only;omega)).2,Option.bind_some,kR hi hh.2.2.2.2.2.2.2.2.2.2.2.2.1.1]
   ·
    unfold uU
    rw [bE,if_neg (by simp only;omega)]
   ·
    unfold uT
    simp only [List.length_append] at hs
    rw [bE,if_pos (by simp only [uA] at hi;simp only;omega),show jV [q.Token,q.Event,q.Seq,q.N] (i:Int)=some (uA q)[i] from eQ hi,Option.bind_some,aAu (by simp only;omega) (l5 _ (List.getElem_mem hi)),Option.bind_some,kR hi (by simp [uA])]
   ·
    unfold uT
    rw [bE,if_neg (by simp [uA])]
   ·
    unfold uS
    simp only [List.length_append] at hs
    have:=hst _ (List.getElem_mem hi)
    rw [bE,if_pos (by simp only [sK] at hi;simp only;omega),show jV [q.Workflow,q.Run,q.ID,q.Name] (i:Int)=some (sK q)[i] from eQ hi,Option.bind_some,aEj (by simp only;omega) (by omega),Option.bind_some,kR hi (by simp [sK])]
   ·
    unfold uS
    rw [bE,if_neg (by simp [sK])]
end Go.Proofs.YtnigjppddilpcaaGreatDoor
namespace Go.Proofs.YtnigjppddilpcaaGreatDoor
open Go Abs
set_option linter.unusedSimpArgs false
set_option linter.unusedVariables false
theorem aD8 {e:Int}{r:aD}{w:aM} (c:Bool) (k k2:Int) (h:fZ e r w):∃ r' w',fD c k r=some (decide (eIf c e=0),r')∧eG c k2 w=some w'∧fZ (eIf c e) r' w':=by
 obtain ⟨h1,h2⟩:=kX h
 unfold fD eG
 rw [h1]
 by_cases hc:c=true
 ·
  have he:eIf c e=e:=by unfold eIf;by_cases h:e=0 <;> simp [h,hc]
  rw [he]
  refine ⟨r,w,?_,by simp [hc],h⟩
  simp [hc,h1]
 ·
  have hc:c=false:=by simpa using hc
  obtain ⟨r',w',h3,h4,h5⟩:=aHI 3 h
  have he:eIf c e=if e=0 then 3 else e:=by unfold eIf;simp [hc]
  rw [he]
  by_cases h0:e=0
  ·
   refine ⟨r',w',?_,by simp [hc,h4],h5⟩
   simp [hc,h0,h3,(kX h5).1]
  ·
   refine ⟨r,w',?_,by simp [hc,h4],?_⟩
   ·
    simp [hc,h0,h1]
   ·
    -- the reader that has failed stays
    obtain ⟨b,a,hb,ha,rfl,rfl⟩:=h
    rw [aEN] at h3
    simp only [h0,if_false] at h3 h5 ⊢
    rw [Option.some.inj h3];exact h5
theorem xF {e:Int}{r:aD}{w:aM} (k:Int) (h:fZ e r w):jO k w=some (decide (e=0)):=by
 unfold jO
 rw [(kX h).2];rfl
theorem aHK {e:Int}{r:aD}{w:aM} (k:Int) (h:fZ e r w):∃ x e' r' w',cW (-9223372036854775808) 9223372036854775807 r=some (x,r')∧iU k w=some (x,w')∧fZ e' r' w'∧lV x∧(e≠0→x=0∧e'=e)∧(e'=0→e=0):=by
 obtain ⟨x,e',r',w',h1,h2,h3,h4,h5,h6⟩:=aHJ (-9223372036854775808) 9223372036854775807 h
 exact ⟨x,e',r',w',h1,by unfold iU;rw [h2];rfl,h3,h4,h5,h6⟩
theorem aIM {e:Int}{r:aD}{w:aM} (k:Int) (h:fZ e r w):∃ x e' r' w',eC 9223372036854775807 r=some (x,r')∧fZ e' r' w'∧x.length≤1000000000∧(e≠0→x=[]∧e'=e)∧(e'=0→e=0) ∧
  ∃ w'',nJ k w=some (x,w'')∧eG (decide ((x.length:Int)≤4096)) k w'=some w'':=by
 obtain ⟨x,e',r',w',h1,h2,h3,h4,h5,h6⟩:=aBr 9223372036854775807 h
 obtain ⟨r2,w2,g1,g2,g3⟩:=aD8 (decide ((x.length:Int)≤4096)) k k h3
 refine ⟨x,e',r',w',h1,h3,h4,h5,h6,w2,?_,g2⟩
 unfold nJ
 rw [h2,Option.bind_some]
 simp only
 rw [g2,Option.bind_some]
theorem fZ.trans_w {e:Int}{r r2:aD}{w w2:aM} (h:fZ e r w) (h2:fZ e r2 w2) (he:e≠0):fZ e r w2:=by
 obtain ⟨b,a,hb,ha,rfl,rfl⟩:=h
 obtain ⟨b2,a2,hb2,ha2,rfl,rfl⟩:=h2
 exact ⟨b,a,hb,ha,rfl,by simp [he]⟩
theorem aLP {e:Int}{r:aD}{w w1:aM} (c1 c2:Bool) (k:Int) (h:fZ e r w) (h1:eG c1 k w=some w1):eG c2 k w1=eG (c1&&c2) k w:=by
 obtain ⟨b,a,hb,ha,rfl,rfl⟩:=h
 unfold eG gR eZ iT at *
 by_cases he:e=0
 ·
  cases c1 <;> cases c2 <;> simp [he] at h1 ⊢ <;> subst h1 <;> simp
 ·
  cases c1 <;> cases c2 <;> simp [he] at h1 ⊢ <;> subst h1 <;> simp [he]
def zV:aC:=⟨0,0,[],[],[]⟩
theorem aEc:bR zV:=by
 refine (eD _).2 ⟨?_,?_,?_,?_,?_⟩ <;> simp [zV,lV,vC,wF]
theorem aCI {k i:Int}{t:List UInt8} (hk:lV k) (hi:lV i) (ht:t.length≤1000000000):bR ⟨k,i,t,[],[]⟩ :=
 (eD _).2 ⟨hk,hi,by simp only [vC];omega,by simp [wF],by simp [wF]⟩
def aPh (A:Option (aC × Int × aD)) (B:Option (aC × Int × aM)) (e:Int):Prop :=
 ∃ v k v' k' e' r' w',A=some (v,k,r')∧B=some (v',k',w')∧fZ e' r' w'∧bR v'∧(e'=0→v=v'∧k=k')∧(e≠0→e'=e)
theorem aKi {n:Nat}{kd d:Int} (hk:lV kd)
  (ih:∀ (k:Int) (r:aD) (w:aM),fZ 0 r w→aPh (bX n (IntKind.i64.wrap (d+1)) k r) (dA n (IntKind.i64.wrap (d+1)) k w) 0)
  (k:Int) (r:aD) (w:aM) (h:fZ 0 r w):aPh (eE (n+1) kd 0 [] d k r) (gH (n+1) kd 0 [] d k w) 0:=by
 rw [eE,gH]
 obtain ⟨x,e1,r1,w1,h1,h2,h3,h4,h5,h6⟩:=aHK k h
 rw [h1,h2]
 simp only [Option.bind_some]
 obtain ⟨r2,w2,g1,g2,g3⟩:=aD8 (cond (decide ((0:Int)≤x)) (decide (x≤(1000:Int))) false) k k h3
 rw [g1,g2]
 simp only [Option.bind_some]
 generalize hE:eIf (cond (decide ((0:Int)≤x)) (decide (x≤(1000:Int))) false) e1=E at g1 g3
 have hno:∀ (e:Int) (r:aD) (w:aM) (i k:Int) (vs:List aC) (ks:List (List UInt8)),e≠0→fZ e r w→dL (dX (dA n) (x,w1) kd d) (i,k,w,vs,ks)=some (k,w,vs,ks):=by
  intro e r w i k vs ks he hl
  refine qB ?_
  unfold dX
  simp only
  by_cases hi:i<x
  ·
   rw [bE,if_pos hi,xF k hl];simp [he,Fl.next]
  ·
   rw [bE,if_neg hi];simp [Fl.next]
 by_cases hE0:E=0
 ·
  -- the number is good
  have hx:0≤x∧x≤1000:=by
   rw [hE0] at hE
   have:=(aM4.1 hE).2
   by_cases h0:0≤x
   ·
    simp [h0] at this;exact ⟨h0,this⟩
   ·
    simp [h0] at this
  obtain ⟨m,rfl⟩:∃ m:Nat,x=(m:Int):=⟨x.toNat,by omega⟩
  rw [hE0] at g3
  simp only [hE0,decide_true,Bool.not_true,cond_false]
  let Q:Fl (aC × Int × aD) (Int × aD × List aC × List (List UInt8))→(Int × aM × List aC × List (List UInt8))→Prop:=fun a b =>
   (∃ (k:Int) (vs:List aC) (ks:List (List UInt8)) (r:aD) (w:aM),a=.go (k,r,vs,ks)∧b=(k,w,vs,ks)∧fZ 0 r w∧bR ⟨kd,0,[],vs,ks⟩) ∨
   (∃ (v:aC) (k k':Int) (vs:List aC) (ks:List (List UInt8)) (r:aD) (w:aM) (e:Int),a=.done (v,k,r)∧b=(k',w,vs,ks)∧fZ e r w∧e≠0∧bR ⟨kd,0,[],vs,ks⟩)
  let R:(Int × Int × aD × List aC × List (List UInt8))→(Int × Int × aM × List aC × List (List UInt8))→Prop:=fun s t =>
   ∃ (i:Nat) (k:Int) (vs:List aC) (ks:List (List UInt8)) (r:aD) (w:aM),s=((i:Int),k,r,vs,ks)∧t=((i:Int),k,w,vs,ks)∧fZ 0 r w∧i≤m∧vs.length=i∧(ks.length=if kd=5 then i else 0)∧(∀ v∈vs,bR v)∧∀ s∈ks,s.length≤1000000000
  have hok:∀ (vs:List aC) (ks:List (List UInt8)),vs.length≤1000→ks.length≤1001→(∀ v∈vs,bR v)→(∀ s∈ks,s.length≤1000000000)→bR ⟨kd,0,[],vs,ks⟩:=fun vs ks a1 a2 a3 a4 =>
   (eD _).2 ⟨hk,by simp [lV],by simp [vC],⟨by simp only;omega,by simp only;omega,a3⟩,⟨by simp only;omega,by simp only;omega,fun s hs=>by have:=a4 s hs;simp only [vC];omega⟩⟩
  obtain ⟨X,Y,l1,l2,l3⟩:=aFx (b1:=cQ (bX n) ((m:Int),r1) kd d) (b2:=dX (dA n) ((m:Int),w1) kd d) R (fun s=>m - s.1.toNat) Q (by
   rintro s t ⟨i,k,vs,ks,r,w,rfl,rfl,hl,hi,hvs,hks,ov,ok⟩
   have hkl:ks.length≤1000:=by rw [hks];split <;> omega
   by_cases hlt:i<m
   ·
    by_cases h5k:kd=5
    ·
     obtain ⟨x,e3,r3,w3,a1,a2,a3,a4,a5,w4,a6,a7⟩:=aIM k hl
     have hprev:(gd ((decide (((x).length:Int)≤(4096:Int)))==true&&((decide ((i:Int)=(0:Int)))==false)) (jV ks (IntKind.wrap .i64 ((i:Int) - (1:Int)))))=some (if x.length≤4096∧i≠0 then ks.getD (i - 1) [] else []):=by
      by_cases hx:x.length≤4096
      ·
       by_cases hi0:i=0
       ·
        subst hi0;simp [gd,hx];rfl
       ·
        have e:IntKind.i64.wrap ((i:Int) - 1)=((i - 1:Nat):Int):=by rw [w64 (by omega) (by omega)];omega
        have hik:i - 1<ks.length:=by rw [hks,if_pos h5k];omega
        rw [e,eQ hik]
        have c1:decide ((x.length:Int)≤4096)=true:=by simp;omega
        have c2:decide ((i:Int)=0)=false:=by simp;omega
        rw [c1,c2]
        simp [gd,hx,hi0,hik]
      ·
       have c1:decide ((x.length:Int)≤4096)=false:=by simp;omega
       rw [c1];simp [gd,hx];rfl
     have hp2:∀ l:List (List UInt8),l=ks++[x]→(gd ((decide ((i:Int)=(0:Int)))==false) (jV l (IntKind.wrap .i64 ((i:Int) - (1:Int)))))=some (if i≠0 then ks.getD (i - 1) [] else [])∧(gd ((decide ((i:Int)=(0:Int)))==false) (jV l (i:Int)))=some (if i≠0 then x else []):=by
      rintro l rfl
      by_cases hi0:i=0
      ·
       subst hi0;constructor <;> (simp [gd];rfl)
      ·
       have e:IntKind.i64.wrap ((i:Int) - 1)=((i - 1:Nat):Int):=by rw [w64 (by omega) (by omega)];omega
       have hkl2:ks.length=i:=by rw [hks,if_pos h5k]
       have hik:i - 1<ks.length:=by omega
       have c2:decide ((i:Int)=0)=false:=by simp;omega
       rw [e,eQ (l:=ks++[x]) (by simp;omega),eQ (l:=ks++[x]) (i:=i) (by simp;omega),c2]
       constructor
       ·
        simp [gd,hi0,List.getElem_append_left hik]
        rw [List.getElem?_eq_getElem hik];rfl
       ·
        simp [gd,hi0,hkl2]
     obtain ⟨p1,p2⟩:=hp2 _ rfl
     generalize hprevv:(if x.length≤4096∧i≠0 then ks.getD (i - 1) [] else [])=pv at hprev
     generalize hC:(cond (decide (((x).length:Int)≤(4096:Int))) (cond (decide ((i:Int)=(0:Int))) true (!(Op.bytesLess x pv||decide (x=pv)))) false)=C
     have hC2:(decide ((x.length:Int)≤4096)&&cond (decide ((i:Int)=0)) true (Op.bytesLess (if i≠0 then ks.getD (i - 1) [] else []) (if i≠0 then x else [])))=C:=by
      rw [← hC,← hprevv,aFc]
      by_cases hx:x.length≤4096
      ·
       have c1:decide ((x.length:Int)≤4096)=true:=by simp;omega
       rw [c1]
       by_cases hi0:i=0
       ·
        subst hi0;simp
       ·
        have c2:decide ((i:Int)=0)=false:=by simp;omega
        rw [c2];simp [hx,hi0]
      ·
       have c1:decide ((x.length:Int)≤4096)=false:=by simp;omega
       rw [c1];rfl
     obtain ⟨r5,w5,s1,s2,s3⟩:=aD8 C k k a2
     have s4:eG (cond (decide ((i:Int)=0)) true (Op.bytesLess (if i≠0 then ks.getD (i - 1) [] else []) (if i≠0 then x else []))) k w4=some w5:=by rw [aLP _ _ k a2 a7,hC2,s2]
     have hkl5:(ks++[x]).length=i+1:=by rw [List.length_append,hks,if_pos h5k];rfl
     have okks:∀ s∈ks++[x],s.length≤1000000000:=by
      intro s hs
      rcases List.mem_append.1 hs with hs | hs
      ·
       exact ok s hs
      ·
       rw [List.mem_singleton.1 hs];exact a3
     have hL:cQ (bX n) ((m:Int),r1) kd d ((i:Int),k,r,vs,ks)=cond (!decide (eIf C e3=0)) (some (bS.out (Fl.done (zV,k,r5)))) (((bX n) (IntKind.i64.wrap (d+1)) k r5).bind fun x30=>(dS x30.2.2).bind fun x32=>cond (!decide (x32=(0:Int))) (some (bS.out (Fl.done (zV,x30.2.1,x30.2.2)))) ((app 80 vs [x30.1]).bind fun x38=>some (bS.next ((IntKind.i64.wrap ((i:Int)+1)),x30.2.1,x30.2.2,x38,ks++[x])))):=by
      unfold cQ
      simp only
      rw [bE,if_pos (by omega)]
      simp only [h5k,decide_true,cond_true]
      rw [a1]
      simp only [Option.bind_some]
      rw [hprev]
      simp only [Option.bind_some]
      rw [hC,s1,jM (by simp;omega)]
      by_cases hz:eIf C e3=0
      ·
       simp [hz,Fl.next,zV]
      ·
       simp [hz,Fl.next,zV]
     have hR:dX (dA n) ((m:Int),w1) kd d ((i:Int),k,w,vs,ks)=cond (decide (eIf C e3=0)) (((dA n) (IntKind.i64.wrap (d+1)) k w5).bind fun x39=>(app 80 vs [x39.1]).bind fun x41=>some (bS.next ((IntKind.i64.wrap ((i:Int)+1)),x39.2.1,x39.2.2,x41,ks++[x]))) (some (bS.next ((IntKind.i64.wrap ((i:Int)+1)),k,w5,vs,ks++[x]))):=by
      unfold dX
      simp only
      rw [bE,if_pos (by omega),xF k hl]
      simp only [decide_true,Option.bind_some,cond_true,Fl.next,h5k]
      rw [a6]
      simp only [Option.bind_some]
      rw [jM (by simp;omega)]
      simp only [Option.bind_some]
      rw [p1,p2]
      simp only [Option.bind_some]
      rw [s4]
      simp only [Option.bind_some]
      rw [xF k s3]
      rfl
     rw [hL]
     by_cases hz:eIf C e3=0
     ·
      rw [hz] at s3
      obtain ⟨v,k1,v',k1',e',r',w',b1,b2,b3,b4,b5,b6⟩:=ih k r5 w5 s3
      have hi1:IntKind.i64.wrap ((i:Int)+1)=((i+1:Nat):Int):=by rw [w64 (by omega) (by omega)];omega
      have hR2:dX (dA n) ((m:Int),w1) kd d ((i:Int),k,w,vs,ks)=some (bS.next (((i+1:Nat):Int),k1',w',vs++[v'],ks++[x])):=by
       rw [hR,hz]
       simp only [decide_true,cond_true]
       rw [b2,Option.bind_some,jM (by simp;omega),Option.bind_some,hi1]
      rw [hz,b1]
      simp only [decide_true,Bool.not_true,cond_false,Option.bind_some]
      rw [(kX b3).1,jM (by simp;omega),hi1]
      simp only [Option.bind_some]
      have okvs:∀ y∈vs++[v'],bR y:=by
       intro y hy
       rcases List.mem_append.1 hy with hy | hy
       ·
        exact ov y hy
       ·
        rw [List.mem_singleton.1 hy];exact b4
      by_cases he:e'=0
      ·
       obtain ⟨rfl,rfl⟩:=b5 he
       subst he
       exact .inl ⟨_,_,rfl,hR2,⟨i+1,k1,vs++[v],ks++[x],r',w',rfl,rfl,b3,by omega,by simp [hvs],by rw [if_pos h5k];exact hkl5,okvs,okks⟩,by simp;omega⟩
      ·
       refine .inr ⟨.done (zV,k1,r'),(k1',w',vs++[v'],ks++[x]),by simp [he],?_,.inr ⟨zV,k1,k1',vs++[v'],ks++[x],r',w',e',rfl,rfl,b3,he,hok _ _ (by simp;omega) (by omega) okvs okks⟩⟩
       rw [yH hR2,hno e' r' w' _ _ _ _ he b3]
     ·
      refine .inr ⟨.done (zV,k,r5),(k,w5,vs,ks++[x]),by simp [hz],?_,.inr ⟨zV,k,k,vs,ks++[x],r5,w5,_,rfl,rfl,s3,hz,hok _ _ (by omega) (by omega) ov okks⟩⟩
      have hR3:dX (dA n) ((m:Int),w1) kd d ((i:Int),k,w,vs,ks)=some (bS.next ((IntKind.i64.wrap ((i:Int)+1)),k,w5,vs,ks++[x])):=by rw [hR];simp [hz]
      rw [yH hR3,hno _ r5 w5 _ _ _ _ hz s3]
    ·
     obtain ⟨v,k1,v',k1',e',r',w',b1,b2,b3,b4,b5,b6⟩:=ih k r w hl
     have hi1:IntKind.i64.wrap ((i:Int)+1)=((i+1:Nat):Int):=by rw [w64 (by omega) (by omega)];omega
     have hR2:dX (dA n) ((m:Int),w1) kd d ((i:Int),k,w,vs,ks)=some (bS.next (((i+1:Nat):Int),k1',w',vs++[v'],ks)):=by
      unfold dX
      simp only
      rw [bE,if_pos (by omega),xF k hl]
      simp only [decide_true,Option.bind_some,cond_true,Fl.next,h5k,decide_false,cond_false]
      rw [xF k hl]
      simp only [decide_true,Option.bind_some,cond_true]
      rw [b2,Option.bind_some,jM (by simp;omega),Option.bind_some,hi1]
     unfold cQ
     simp only
     rw [bE,if_pos (by omega)]
     simp only [h5k,decide_false,cond_false,Option.bind_some,Fl.next]
     rw [b1]
     simp only [Option.bind_some]
     rw [(kX b3).1,jM (by simp;omega),hi1]
     simp only [Option.bind_some]
     have okvs:∀ y∈vs++[v'],bR y:=by
      intro y hy
      rcases List.mem_append.1 hy with hy | hy
      ·
       exact ov y hy
      ·
       rw [List.mem_singleton.1 hy];exact b4
     by_cases he:e'=0
     ·
      obtain ⟨rfl,rfl⟩:=b5 he
      subst he
      exact .inl ⟨_,_,rfl,hR2,⟨i+1,k1,vs++[v],ks,r',w',rfl,rfl,b3,by omega,by simp [hvs],by rw [if_neg h5k] at hks ⊢;exact hks,okvs,ok⟩,by simp;omega⟩
     ·
      refine .inr ⟨.done (zV,k1,r'),(k1',w',vs++[v'],ks),by simp [he,zV],?_,.inr ⟨zV,k1,k1',vs++[v'],ks,r',w',e',rfl,rfl,b3,he,hok _ _ (by simp;omega) (by omega) okvs ok⟩⟩
      rw [yH hR2,hno e' r' w' _ _ _ _ he b3]
   ·
    refine .inr ⟨.go (k,r,vs,ks),(k,w,vs,ks),?_,?_,.inl ⟨k,vs,ks,r,w,rfl,rfl,hl,hok vs ks (by omega) (by omega) ov ok⟩⟩
    ·
     unfold cQ
     rw [bE,if_neg (by simp only;omega)]
    ·
     refine qB ?_
     unfold dX
     rw [bE,if_neg (by simp only;omega)];rfl) (0,k,r2,[],[]) (0,k,w2,[],[]) ⟨0,k,[],[],r2,w2,rfl,rfl,g3,by omega,rfl,by simp,by simp,by simp⟩
  rw [l1,l2]
  rcases l3 with ⟨k,vs,ks,r,w,rfl,rfl,q1,q2⟩ | ⟨v,k,k',vs,ks,r,w,e,rfl,rfl,q1,q2,q3⟩
  ·
   exact ⟨_,_,_,_,0,_,_,rfl,rfl,q1,q2,fun _=>⟨rfl,rfl⟩,fun h=>absurd rfl h⟩
  ·
   exact ⟨_,_,_,_,e,_,_,rfl,rfl,q1,q3,fun h=>absurd h q2,fun h=>absurd rfl h⟩
 ·
  have hd:decide (E=0)=false:=by simp [hE0]
  simp only [hd,Bool.not_false,cond_true]
  rw [hno E r2 w2 0 k [] [] hE0 g3]
  exact ⟨_,_,_,_,E,_,_,rfl,rfl,g3,aCI hk (by simp [lV]) (by simp),fun h=>absurd h hE0,fun h=>absurd rfl h⟩
theorem aKN:∀ (n:Nat) (d k:Int) (r:aD) (w:aM) (e:Int),fZ e r w→-1000000≤d→d≤1000000→2*(17 - d).toNat+1≤n→aPh (bX n d k r) (dA n d k w) e:=by
 intro n
 induction n using Nat.strongRecOn with
 | _ n ih =>
  intro d k r w e h hd1 hd2 hn
  obtain ⟨m,rfl⟩:∃ m,n=m+1:=⟨n - 1,by omega⟩
  rw [bX,dA]
  generalize hk1:IntKind.i64.wrap (k+1)=k1
  obtain ⟨r1,w1,a1,a2,a3⟩:=aD8 (cond (decide (k<(1000:Int))) (decide (d≤(16:Int))) false) k k h
  rw [a1,a2]
  simp only [Option.bind_some]
  generalize hE:eIf (cond (decide (k<(1000:Int))) (decide (d≤(16:Int))) false) e=E at a1 a3
  obtain ⟨x,e2,r2,w2,b1,b2,b3,b4,b5,b6⟩:=aHK k1 a3
  rw [b1,b2]
  by_cases hE0:E=0
  ·
   subst hE0
   obtain ⟨he0,hc⟩:=aM4.1 hE
   have hd:d≤16:=by
    by_cases hk:k<1000
    ·
     simpa [hk] using hc
    ·
     simp [hk] at hc
   simp only [decide_true,Bool.not_true,cond_false,Option.bind_some]
   obtain ⟨r3,w3,c1,c2,c3⟩:=aD8 (cond (decide ((0:Int)≤x)) (decide (x≤(5:Int))) false) k1 k1 b3
   rw [c1,c2]
   simp only [Option.bind_some]
   rw [xF k1 c3]
   simp only [Option.bind_some]
   generalize hE3:eIf (cond (decide ((0:Int)≤x)) (decide (x≤(5:Int))) false) e2=E3 at c1 c3
   by_cases hE30:E3=0
   ·
    subst hE30
    simp only [decide_true,Bool.not_true,cond_false]
    by_cases h1:x=1
    ·
     simp only [h1,decide_true,cond_true]
     obtain ⟨x4,e4,r4,w4,d1,d2,d3,d4,d5,d6⟩:=aHK k1 c3
     obtain ⟨r5,w5,f1,f2,f3⟩:=aD8 (cond (decide (x4=(0:Int))) true (decide (x4=(1:Int)))) k1 k1 d3
     rw [d1,d2]
     simp only [Option.bind_some]
     rw [f1,f2]
     exact ⟨_,_,_,_,_,_,_,rfl,rfl,f3,aCI (by simp [lV]) d4 (by simp),fun _=>⟨rfl,rfl⟩,fun h=>absurd he0 h⟩
    ·
     simp only [h1,decide_false,cond_false]
     by_cases h2:x=2
     ·
      simp only [h2,decide_true,cond_true]
      obtain ⟨x4,e4,r4,w4,d1,d2,d3,d4,d5,d6⟩:=aHK k1 c3
      rw [d1,d2]
      exact ⟨_,_,_,_,_,_,_,rfl,rfl,d3,aCI (by simp [lV]) d4 (by simp),fun _=>⟨rfl,rfl⟩,fun h=>absurd he0 h⟩
     ·
      simp only [h2,decide_false,cond_false]
      by_cases h3:x=3
      ·
       simp only [h3,decide_true,cond_true]
       obtain ⟨x4,e4,r4,w4,d1,d2,d3,d4,d5,w6,d6,d7⟩:=aIM k1 c3
       obtain ⟨r5,w5,f1,f2,f3⟩:=aD8 (decide ((x4.length:Int)≤4096)) k1 k1 d2
       have:w6=w5:=by rw [d7] at f2;exact Option.some.inj f2
       subst this
       rw [d1,d6]
       simp only [Option.bind_some]
       rw [f1]
       exact ⟨_,_,_,_,_,_,_,rfl,rfl,f3,aCI (by simp [lV]) (by simp [lV]) d3,fun _=>⟨rfl,rfl⟩,fun h=>absurd he0 h⟩
      ·
       simp only [h3,decide_false,cond_false]
       by_cases h45:x=4∨x=5
       ·
        have e45:(cond (decide (x=(4:Int))) (some (decide (x=(4:Int)))) (some (decide (x=(5:Int)))))=some true:=by rcases h45 with h | h <;> simp [h]
        rw [e45]
        simp only [Option.bind_some,cond_true]
        obtain ⟨m2,rfl⟩:∃ m2,m=m2+1:=⟨m - 1,by omega⟩
        have hdw:IntKind.i64.wrap (d+1)=d+1:=w64 (by omega) (by omega)
        obtain ⟨v,kk,v',kk',e',r',w',g1,g2,g3,g4,g5,g6⟩:=aKi (n:=m2) (kd:=x) (d:=d) b4 (fun k r w hl=>ih m2 (by omega) _ k r w 0 hl (by rw [hdw];omega) (by rw [hdw];omega) (by rw [hdw];omega)) k1 r3 w3 c3
        rw [g1,g2]
        exact ⟨v,kk,v',kk',e',r',w',rfl,rfl,g3,g4,g5,fun h=>absurd he0 h⟩
       ·
        have h4:x≠4:=fun h=>h45 (.inl h)
        have h5:x≠5:=fun h=>h45 (.inr h)
        simp only [h4,h5,decide_false,cond_false,Option.bind_some]
        exact ⟨_,_,_,_,_,_,_,rfl,rfl,c3,aCI b4 (by simp [lV]) (by simp),fun _=>⟨rfl,rfl⟩,fun h=>absurd he0 h⟩
   ·
    have hd:decide (E3=0)=false:=by simp [hE30]
    simp only [hd,Bool.not_false,cond_true]
    exact ⟨_,_,_,_,E3,_,_,rfl,rfl,c3,aEc,fun h=>absurd h hE30,fun h=>absurd he0 h⟩
  ·
   have hd:decide (E=0)=false:=by simp [hE0]
   obtain ⟨rfl,rfl⟩:=b5 hE0
   simp only [hd,Bool.not_false,cond_true,Option.bind_some]
   obtain ⟨r3,w3,c1,c2,c3⟩:=aD8 (cond (decide ((0:Int)≤0)) (decide ((0:Int)≤(5:Int))) false) k1 k1 b3
   rw [c2]
   simp only [Option.bind_some]
   rw [xF k1 c3]
   have hz:eIf (cond (decide ((0:Int)≤0)) (decide ((0:Int)≤(5:Int))) false) e2=e2:=by unfold eIf;rw [if_neg hE0]
   rw [hz] at c3 ⊢
   have hw:w3=w2:=by simp [eG] at c2;exact c2.symm
   subst hw
   simp only [hE0,decide_false,Bool.not_false,cond_true,Option.bind_some]
   exact ⟨_,_,_,_,e2,_,_,rfl,rfl,a3.trans_w b3 hE0,aEc,fun h=>absurd h hE0,fun h=>by unfold eIf at hE;rw [if_neg h] at hE;exact hE.symm⟩
end Go.Proofs.YtnigjppddilpcaaGreatDoor

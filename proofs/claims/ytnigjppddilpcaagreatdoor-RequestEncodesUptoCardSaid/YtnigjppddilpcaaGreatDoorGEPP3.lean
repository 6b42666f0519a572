/- Plain laws: what the functions compute, with no program in sight. -/
import Derived.Test.YtnigjppddilpcaaGreatDoorGEPP1
import Derived.Test.YtnigjppddilpcaaGreatDoorGEPP2
import Derived.Test.YtnigjppddilpcaaGreatDoorGEF1
import Derived.Test.YtnigjppddilpcaaGreatDoorGEF7
import Derived.Test.YtnigjppddilpcaaGreatDoorGEF14
import Derived.Test.YtnigjppddilpcaaGreatDoorGEF16
import Derived.Test.YtnigjppddilpcaaGreatDoorAbsU
import Derived.Test.YtnigjppddilpcaaGreatDoorGEF8
import Derived.Test.YtnigjppddilpcaaGreatDoorGEPP0
import Derived.Test.YtnigjppddilpcaaGreatDoorGESh
import Derived.Test.YtnigjppddilpcaaGreatDoorGEF2
import Derived.Test.YtnigjppddilpcaaGreatDoorGEF3
import Derived.Test.YtnigjppddilpcaaGreatDoorGEF4
import Derived.Test.YtnigjppddilpcaaGreatDoorGEF6
import Derived.Test.YtnigjppddilpcaaGreatDoorGEF9
import Derived.Test.YtnigjppddilpcaaGreatDoorGEF10
import Derived.Test.YtnigjppddilpcaaGreatDoorGEF0
import Derived.Test.YtnigjppddilpcaaGreatDoorGEF5
import Derived.Test.YtnigjppddilpcaaGreatDoorGEF11
import Derived.Test.YtnigjppddilpcaaGreatDoorGEF12
import Derived.Test.YtnigjppddilpcaaGreatDoorGEF17
import Derived.Test.YtnigjppddilpcaaGreatDoorGEF18
import Derived.Test.YtnigjppddilpcaaGreatDoorGEF15
namespace Go.Proofs.YtnigjppddilpcaaGreatDoor
open Go Abs
set_option linter.unusedSimpArgs false
set_option linter.unusedVariables false
end Go.Proofs.YtnigjppddilpcaaGreatDoor
namespace Go.Proofs.YtnigjppddilpcaaGreatDoor
open Go Abs
set_option linter.unusedSimpArgs false
set_option linter.unusedVariables false
def aHy (o:cE):List UInt8:=nN o.Queue++kB o.ToStart++kB o.ToClose++kB o.Total++kB o.Beat++kB o.First++kB o.Coef++kB o.Most++kB o.Attempts++kB o.Fatal.length++o.Fatal.flatMap nN
def aAu (c:bI):List UInt8:=kB c.Kind++kB c.Seq++nN c.Name++nN c.Key++kB c.N++pE c.Data++aHy c.Opts
theorem aHr {α:Type} (f:α→List UInt8) (m:Nat):∀ (l:List α),(∀ x∈l,(f x).length≤m)→(l.flatMap f).length≤l.length*m
 | [],_=>by simp
 | x :: l,h=>by
  have h1:=h x (by simp)
  have h2:=aHr f m l (fun y hy=>h y (by simp [hy]))
  simp only [List.flatMap_cons,List.length_append,List.length_cons,Nat.add_mul];omega
theorem aBT {s:List UInt8} (h:lW s=true):s.length≤64:=by
 unfold lW at h
 simp only [Bool.and_eq_true,decide_eq_true_eq] at h
 exact h.1.1.2
theorem xP {o:cE} (h:oR o=true):o.Queue.length≤64∧o.Fatal.length≤64∧∀ s∈o.Fatal,s.length≤4096:=by
 unfold oR at h
 simp only [Bool.and_eq_true,Bool.or_eq_true,decide_eq_true_eq,Bool.not_eq_true',List.any_eq_false,iM,decide_eq_false_iff_not] at h
 refine ⟨?_,h.1.1.1.1.2,fun s hs=>by have:=h.2 s hs;omega⟩
 rcases h.1.1.1.1.1 with hq | hq
 ·
  rw [hq];simp
 ·
  exact aBT hq
theorem aFr {o:cE} (h:fR o) (hp:oR o=true):(aHy o).length≤300000:=by
 obtain ⟨h1,h2,h3⟩:=xP hp
 obtain ⟨k0,k1,k2,k3,k4,k5,k6,k7,k8,k9⟩:=h
 have a0:=pS (s:=o.Queue) (by omega)
 have a1:=iD k1
 have a2:=iD k2
 have a3:=iD k3
 have a4:=iD k4
 have a5:=iD k5
 have a6:=iD k6
 have a7:=iD k7
 have a8:=iD k8
 have a9:=yW k9.1
 have a10:=aHr nN 4106 o.Fatal (fun s hs=>by have:=h3 s hs;have:=pS (s:=s) (by omega);omega)
 unfold aHy
 simp only [List.length_append]
 omega
theorem aLM {b:List UInt8}{o:cE} (h:fR o) (hp:oR o=true) (hb:b.length≤100000000000):pJ b o=some (b++aHy o):=by
 obtain ⟨h1,h2,h3⟩:=xP hp
 have hl:=aFr h hp
 obtain ⟨k0,k1,k2,k3,k4,k5,k6,k7,k8,k9⟩:=h
 have hok:qW (o.Fatal.length:Int):=⟨by omega,by omega⟩
 unfold aHy at hl ⊢
 simp only [List.length_append] at hl
 unfold pJ
 simp only [kK,Option.bind_some]
 rw [aIV (by first | omega | (simp only [List.length_append];omega)) (by omega),Option.bind_some,yF (by first | omega | (simp only [List.length_append];omega)) k1,Option.bind_some,yF (by first | omega | (simp only [List.length_append];omega)) k2,Option.bind_some,
  yF (by first | omega | (simp only [List.length_append];omega)) k3,Option.bind_some,yF (by first | omega | (simp only [List.length_append];omega)) k4,Option.bind_some,yF (by first | omega | (simp only [List.length_append];omega)) k5,Option.bind_some,
  yF (by first | omega | (simp only [List.length_append];omega)) k6,Option.bind_some,yF (by first | omega | (simp only [List.length_append];omega)) k7,Option.bind_some,yF (by first | omega | (simp only [List.length_append];omega)) k8,Option.bind_some,
  yF (by first | omega | (simp only [List.length_append];omega)) hok,Option.bind_some]
 rw [nG 1000000000000 o.Fatal nN _ (by first | omega | (simp only [List.length_append];omega)) (fun s i hi hs=>?_) (fun s=>?_)]
 ·
  simp
 ·
  unfold oV
  simp only [List.length_append] at hs
  have:=aCV o.Fatal[i]
  rw [cC,if_pos (by simp only;omega),fH hi,Option.bind_some,aIV (by simp only;omega) (by omega),Option.bind_some,kM hi k9.1]
 ·
  unfold oV
  rw [cC,if_neg (by simp only;omega)]
theorem aBZ {b:List UInt8}{o:cE} (h:fR o) (hb:b.length≤100000000000):lJ b o=some (b++if oR o then aHy o else []):=by
 unfold lJ
 rw [qS (by simp;omega),xQ h]
 cases hp:oR o
 ·
  simp
 ·
  obtain ⟨h1,h2,h3⟩:=xP hp
  have hl:=aFr h hp
  obtain ⟨k0,k1,k2,k3,k4,k5,k6,k7,k8,k9⟩:=h
  have hok:qW (o.Fatal.length:Int):=⟨by omega,by omega⟩
  unfold aHy at hl ⊢
  simp only [List.length_append] at hl
  simp only [Option.bind_some,List.nil_append,Bool.not_true,cond_false,if_true]
  rw [aD4 (by omega) (by omega),Option.bind_some]
  have hns:∀ n∈[o.ToStart,o.ToClose,o.Total,o.Beat,o.First,o.Coef,o.Most,o.Attempts,(o.Fatal.length:Int)],qW n:=by
   simp only [List.mem_cons,List.not_mem_nil,or_false]
   rintro n (rfl | rfl | rfl | rfl | rfl | rfl | rfl | rfl | rfl) <;> assumption
  rw [nG 1000000000000 [o.ToStart,o.ToClose,o.Total,o.Beat,o.First,o.Coef,o.Most,o.Attempts,(o.Fatal.length:Int)] kB _ (by simp only [List.length_append,List.flatMap_cons,List.flatMap_nil,List.length_nil];omega) (fun s i hi hs=>?_) (fun s=>?_),Option.bind_some]
  ·
   rw [nG 1000000000000 o.Fatal nN _ (by simp only [List.length_append,List.flatMap_cons,List.flatMap_nil,List.length_nil];omega) (fun s i hi hs=>?_) (fun s=>?_)]
   ·
    simp
   ·
    unfold lT
    simp only [List.length_append] at hs
    have:=aCV o.Fatal[i]
    rw [cC,if_pos (by simp only;omega),fH hi,Option.bind_some,aD4 (by simp only;omega) (by omega),Option.bind_some,kM hi k9.1]
   ·
    unfold lT
    rw [cC,if_neg (by simp only;omega)]
  ·
   unfold lS
   simp only [List.length_append] at hs
   rw [cC,if_pos (by simp only;omega),fH hi,Option.bind_some,aAe (by simp only;omega) (hns _ (List.getElem_mem hi)),Option.bind_some,kM hi (by simp)]
  ·
   unfold lS
   rw [cC,if_neg (by simp only;omega)]
theorem oG {v:aG} (h:nL v=true):shr v=true∧xW false v=true∧xW true v=true:=by
 unfold nL wth at h
 simp only [Bool.and_eq_true] at h
 refine ⟨h.1.2,h.2,?_⟩
 have:=h.2
 rw [aMC (tN v) v (Nat.le_refl _)] at this
 simp only [Bool.and_eq_true] at this
 exact this.1
theorem vT {c:bI} (h:iN c=true):nL c.Data=true∧oR c.Opts=true:=by
 unfold iN at h
 simp only [Bool.and_eq_true] at h
 exact ⟨h.1.1.1.1.1.2,h.1.1.1.1.2⟩
end Go.Proofs.YtnigjppddilpcaaGreatDoor
namespace Go.Proofs.YtnigjppddilpcaaGreatDoor
open Go Abs
set_option linter.unusedSimpArgs false
set_option linter.unusedVariables false
theorem vE {r:aQ}{n:Int}{rest:List UInt8} (h:At r (kB n++rest)) (hn:qW n):∃ r',eY r=some (n,r')∧At r' rest:=by
 obtain ⟨r',h1,h2⟩:=aBQ (low:=-9223372036854775808) (high:=9223372036854775807) h hn hn.1 hn.2
 exact ⟨r',by unfold eY;rw [h1];rfl,h2⟩
theorem aIS {r:aQ}{o:cE}{rest:List UInt8} (h:At r (aHy o++rest)) (ho:fR o) (hp:oR o=true):∃ r',jR r=some (o,r')∧At r' rest:=by
 obtain ⟨p1,p2,p3⟩:=xP hp
 obtain ⟨k0,k1,k2,k3,k4,k5,k6,k7,k8,k9⟩:=id ho
 have hok:qW (o.Fatal.length:Int):=⟨by omega,by omega⟩
 unfold aHy at h
 simp only [List.append_assoc] at h
 obtain ⟨r0,a0,l0⟩:=yU (most:=4096) h (by omega)
 obtain ⟨r1,a1,l1⟩:=vE l0 k1
 obtain ⟨r2,a2,l2⟩:=vE l1 k2
 obtain ⟨r3,a3,l3⟩:=vE l2 k3
 obtain ⟨r4,a4,l4⟩:=vE l3 k4
 obtain ⟨r5,a5,l5⟩:=vE l4 k5
 obtain ⟨r6,a6,l6⟩:=vE l5 k6
 obtain ⟨r7,a7,l7⟩:=vE l6 k7
 obtain ⟨r8,a8,l8⟩:=vE l7 k8
 obtain ⟨r9,a9,l9⟩:=vE l8 hok
 unfold jR
 rw [a0]
 simp only [Option.bind_some,nU]
 rw [a1]
 simp only [Option.bind_some]
 rw [a2]
 simp only [Option.bind_some]
 rw [a3]
 simp only [Option.bind_some]
 rw [a4]
 simp only [Option.bind_some]
 rw [a5]
 simp only [Option.bind_some]
 rw [a6]
 simp only [Option.bind_some]
 rw [a7]
 simp only [Option.bind_some]
 rw [a8]
 simp only [Option.bind_some]
 rw [a9]
 simp only [Option.bind_some]
 rw [sH l9,qX]
 have hin:inB (o.Fatal.length:Int) 0 64=true:=by unfold inB;simp;omega
 rw [hin]
 simp only [Option.bind_some,decide_true,beq_self_eq_true,gd,if_true,Bool.not_true,cond_true,cond_false]
 obtain ⟨X,g1,g2⟩:=rE (body:=kE ((o.Fatal.length:Int),r9))
  (fun s=>∃ (i:Nat) (r':aQ),i≤o.Fatal.length∧s=((i:Int),r',o.Fatal.take i)∧At r' ((o.Fatal.drop i).flatMap nN++rest)) (fun s=>o.Fatal.length - s.1.toNat)
  (fun X=>∃ r',X=(r',o.Fatal)∧At r' rest) (by
   rintro s ⟨i,r',hi,rfl,hat'⟩
   unfold kE
   by_cases hlt:i<o.Fatal.length
   ·
    rw [aBj nN _ i hlt,List.append_assoc] at hat'
    obtain ⟨r3,f1,f2⟩:=yU (most:=4096) hat' (by have:=p3 _ (List.getElem_mem hlt);omega)
    refine .inl ⟨((i+1:Nat),r3,o.Fatal.take (i+1)),?_,⟨i+1,r3,by omega,rfl,f2⟩,by simp;omega⟩
    simp only
    rw [cC,if_pos (by omega),sH hat']
    simp only [Option.bind_some,decide_true,cond_true,Fl.next]
    rw [f1]
    simp only [Option.bind_some]
    rw [qS (by simp;omega),kM hlt (by omega),← List.take_succ_eq_append_getElem hlt]
    rfl
   ·
    obtain rfl:i=o.Fatal.length:=by omega
    refine .inr ⟨(r',o.Fatal),?_,r',rfl,by simpa using hat'⟩
    simp only
    rw [cC,if_neg (by omega),List.take_length];rfl) ((0:Int),r9,[]) ⟨0,r9,by omega,by simp,by simpa using l9⟩
 obtain ⟨r',rfl,hat'⟩:=g2
 rw [g1]
 simp only [Option.bind_some]
 have hokP:fR ⟨o.Queue,o.ToStart,o.ToClose,o.Total,o.Beat,o.First,o.Coef,o.Most,o.Attempts,o.Fatal⟩:=ho
 have hpP:oR ⟨o.Queue,o.ToStart,o.ToClose,o.Total,o.Beat,o.First,o.Coef,o.Most,o.Attempts,o.Fatal⟩=true:=hp
 rw [sH hat',aAo hokP,hpP]
 refine ⟨r',?_,hat'⟩
 simp only [Option.bind_some,decide_true,beq_self_eq_true,gd,if_true,Bool.not_true,cond_true,cond_false]
 rw [sH hat']
 rfl
theorem xT {r:aQ}{v:aG}{rest:List UInt8} (h:At r (pE v++rest)) (hv:cP v) (hr:nL v=true) (hn:nsz v≤1200):∃ r',qO r=some (v,r')∧At r' rest:=by
 obtain ⟨q1,q2,q3⟩:=oG hr
 obtain ⟨d1,d2⟩:=aKF (tN v) v (Nat.le_refl _) (by omega)
 have hw:wth v=true:=by unfold nL at hr;simp only [Bool.and_eq_true] at hr;exact hr.1
 unfold wth at hw
 rw [d1,d2] at hw
 simp only [Bool.and_eq_true,decide_eq_true_eq] at hw
 obtain ⟨r',g1,g2⟩:=aKt (2*tN v) v 1 0 r rest h hv q2 q1 (by omega) (by omega) (by omega) (Nat.le_refl _)
 have g1:=yN g1
 simp only [Int.natCast_zero] at g1
 refine ⟨r',?_,g2⟩
 unfold qO
 rw [sH h]
 simp only [Option.bind_some,Int.reduceEq,decide_false,cond_false,Fl.next]
 rw [g1]
 simp only [Option.bind_some]
 rw [sH g2]
 rfl
end Go.Proofs.YtnigjppddilpcaaGreatDoor
namespace Go.Proofs.YtnigjppddilpcaaGreatDoor
open Go Abs
set_option linter.unusedSimpArgs false
set_option linter.unusedVariables false
theorem aAv {c:bI} (hr:iN c=true):c.Name.length≤4096∧c.Key.length≤64:=by
 unfold iN at hr
 simp only [Bool.and_eq_true,Bool.or_eq_true,Bool.not_eq_true'] at hr
 obtain ⟨⟨⟨⟨⟨⟨⟨_,hb⟩,_⟩,_⟩,_⟩,hk⟩,hn⟩,_⟩:=hr
 constructor
 ·
  rcases hn with hn | hn
  ·
   unfold aBu at hb
   simp only [Bool.and_eq_true,Bool.or_eq_true,hn,decide_eq_true_eq] at hb
   have:=hb.1.1.1.1.2
   simp at this
   rw [this];simp
  ·
   by_cases h12:c.Kind=12
   ·
    rw [if_pos h12] at hn
    simp only [iM,Bool.not_eq_true',decide_eq_false_iff_not] at hn
    omega
   ·
    rw [if_neg h12] at hn
    have:=aBT hn
    omega
 ·
  rcases hk with hk | hk
  ·
   unfold aBu at hb
   simp only [Bool.and_eq_true,Bool.or_eq_true,hk,decide_eq_true_eq] at hb
   have:=hb.1.1.1.2
   simp at this
   rw [this];simp
  ·
   unfold iZ at hk
   simp only [Bool.and_eq_true,decide_eq_true_eq] at hk
   exact hk.1.2
theorem aGQ {c:bI} (h:gL c) (hr:iN c=true) (hn:nsz c.Data≤1200):(aAu c).length≤11000000∧(pE c.Data).length≤10100000:=by
 obtain ⟨s1,s2⟩:=aAv hr
 obtain ⟨r1,r2⟩:=vT hr
 obtain ⟨k0,k1,k2,k3,k4,k5,k6⟩:=h
 have a0:=iD k0
 have a1:=iD k1
 have a2:=pS (s:=c.Name) (by omega)
 have a3:=pS (s:=c.Key) (by omega)
 have a4:=iD k4
 have a5:=aJo (tN c.Data) c.Data (Nat.le_refl _) k5 (oG r1).1
 have a6:=aFr k6 r2
 unfold aAu
 simp only [List.length_append]
 omega
theorem aDW {b:List UInt8}{c:bI} (h:gL c) (hr:iN c=true) (hn:nsz c.Data≤1200) (hb:b.length≤50000000000):pG b c=some (b++aAu c)∧tB b c=some (b++aAu c):=by
 obtain ⟨r1,r2⟩:=vT hr
 obtain ⟨s1,s2⟩:=aAv hr
 have hl:=aGQ h hr hn
 constructor
 ·
  unfold pG
  rw [xL (by omega),tR h,hr]
  obtain ⟨k0,k1,k2,k3,k4,k5,k6⟩:=h
  unfold aAu at hl ⊢
  simp only [List.length_append] at hl
  simp only [Option.bind_some,Bool.not_true,cond_false,if_true]
  rw [yF (by omega) k0,Option.bind_some,yF (by first | omega | (simp only [List.length_append];omega)) k1,Option.bind_some,aIV (by first | omega | (simp only [List.length_append];omega)) (by omega),Option.bind_some,aIV (by first | omega | (simp only [List.length_append];omega)) (by omega),Option.bind_some,
   yF (by first | omega | (simp only [List.length_append];omega)) k4,Option.bind_some,aAf k5 (by first | omega | (simp only [List.length_append];omega)),(oG r1).2.2,Option.bind_some]
  rw [aLM k6 r2 (by simp only [if_true,List.length_append];omega)]
  simp
 ·
  unfold tB
  rw [qS (by simp;omega),aBB h,hr]
  obtain ⟨k0,k1,k2,k3,k4,k5,k6⟩:=h
  unfold aAu at hl ⊢
  simp only [List.length_append] at hl
  simp only [Option.bind_some,Bool.not_true,cond_false,if_true,List.nil_append]
  rw [aAe (by omega) k0,Option.bind_some,aAe (by first | omega | (simp only [List.length_append];omega)) k1,Option.bind_some,aD4 (by first | omega | (simp only [List.length_append];omega)) (by omega),Option.bind_some,aD4 (by first | omega | (simp only [List.length_append];omega)) (by omega),Option.bind_some,
   aAe (by first | omega | (simp only [List.length_append];omega)) k4,Option.bind_some,aCL k5 (by first | omega | (simp only [List.length_append];omega)),(oG r1).2.2,Option.bind_some]
  rw [aBZ k6 (by simp only [if_true,List.length_append];omega),r2]
  simp
theorem aMs {r:aQ}{c:bI}{rest:List UInt8} (h:At r (aAu c++rest)) (hc:gL c) (hr:iN c=true) (hn:nsz c.Data≤1200):∃ r',pF r=some (c,r')∧At r' rest:=by
 obtain ⟨c1,c2⟩:=vT hr
 obtain ⟨s1,s2⟩:=aAv hr
 obtain ⟨k0,k1,k2,k3,k4,k5,k6⟩:=id hc
 unfold aAu at h
 simp only [List.append_assoc] at h
 obtain ⟨r0,a0,l0⟩:=vE h k0
 obtain ⟨r1,a1,l1⟩:=vE l0 k1
 obtain ⟨r2,a2,l2⟩:=yU (most:=4096) l1 (by omega)
 obtain ⟨r3,a3,l3⟩:=yU (most:=4096) l2 (by omega)
 obtain ⟨r4,a4,l4⟩:=vE l3 k4
 obtain ⟨r5,a5,l5⟩:=xT l4 k5 c1 hn
 obtain ⟨r6,a6,l6⟩:=aIS l5 k6 c2
 unfold pF
 rw [a0]
 simp only [Option.bind_some]
 rw [a1]
 simp only [Option.bind_some]
 rw [a2]
 simp only [Option.bind_some]
 rw [a3]
 simp only [Option.bind_some]
 rw [a4]
 simp only [Option.bind_some]
 rw [a5]
 simp only [Option.bind_some]
 rw [a6]
 simp only [Option.bind_some]
 have e:(⟨c.Kind,c.Seq,c.Name,c.Key,c.N,c.Data,c.Opts⟩:bI)=c:=rfl
 rw [sH l6,e,tR hc,hr]
 refine ⟨r6,?_,l6⟩
 simp only [Option.bind_some,decide_true,beq_self_eq_true,gd,if_true,Bool.not_true,cond_true,cond_false]
 rw [sH l6]
 rfl
end Go.Proofs.YtnigjppddilpcaaGreatDoor
namespace Go.Proofs.YtnigjppddilpcaaGreatDoor
open Go Abs
set_option linter.unusedSimpArgs false
set_option linter.unusedVariables false
theorem aIo {α:Type}{row:α→List PV}:∀ {l:List α}{x:α},x∈l→PV.bulkRow (row x)≤PV.bulkRows (l.map row)
 | [],x,h=>by simp at h
 | y :: l,x,h=>by
  simp only [List.map_cons,PV.bulkRows]
  rcases List.mem_cons.1 h with rfl | h
  ·
   omega
  ·
   have:=aIo (row:=row) h;omega
theorem aKu (v:aG):PV.bulkRow (bB v)=v.Text.length+PV.bulkRows (v.Items.map bB)+PV.bulkRows (v.Keys.map dD)+5:=by
 rw [cY]
 simp only [cV,PV.bulkRow,PV.bulk,PV.ls]
 omega
end Go.Proofs.YtnigjppddilpcaaGreatDoor
namespace Go.Proofs.YtnigjppddilpcaaGreatDoor
open Go Abs
set_option linter.unusedSimpArgs false
set_option linter.unusedVariables false
end Go.Proofs.YtnigjppddilpcaaGreatDoor
namespace Go.Proofs.YtnigjppddilpcaaGreatDoor
open Go Abs
set_option linter.unusedSimpArgs false
set_option linter.unusedVariables false
end Go.Proofs.YtnigjppddilpcaaGreatDoor
namespace Go.Proofs.YtnigjppddilpcaaGreatDoor
open Go Abs
set_option linter.unusedSimpArgs false
set_option linter.unusedVariables false
end Go.Proofs.YtnigjppddilpcaaGreatDoor
namespace Go.Proofs.YtnigjppddilpcaaGreatDoor
open Go Abs
set_option linter.unusedSimpArgs false
set_option linter.unusedVariables false
end Go.Proofs.YtnigjppddilpcaaGreatDoor
namespace Go.Proofs.YtnigjppddilpcaaGreatDoor
open Go Abs
set_option linter.unusedSimpArgs false
set_option linter.unusedVariables false
def wf {α:Type} (f:Int→α→Int):List α→Int→Int
 | [],a=>a
 | x :: l,a=>if 0≤a then wf f l (f a x) else a
end Go.Proofs.YtnigjppddilpcaaGreatDoor
namespace Go.Proofs.YtnigjppddilpcaaGreatDoor
open Go Abs
set_option linter.unusedSimpArgs false
set_option linter.unusedVariables false
set_option maxRecDepth 20000
end Go.Proofs.YtnigjppddilpcaaGreatDoor
namespace Go.Proofs.YtnigjppddilpcaaGreatDoor
open Go Abs
set_option linter.unusedSimpArgs false
set_option linter.unusedVariables false
end Go.Proofs.YtnigjppddilpcaaGreatDoor
namespace Go.Proofs.YtnigjppddilpcaaGreatDoor
open Go Abs
set_option linter.unusedSimpArgs false
set_option linter.unusedVariables false
end Go.Proofs.YtnigjppddilpcaaGreatDoor
namespace Go.Proofs.YtnigjppddilpcaaGreatDoor
open Go Abs
set_option linter.unusedSimpArgs false
set_option linter.unusedVariables false
set_option maxRecDepth 20000
end Go.Proofs.YtnigjppddilpcaaGreatDoor
namespace Go.Proofs.YtnigjppddilpcaaGreatDoor
open Go Abs
set_option linter.unusedSimpArgs false
set_option linter.unusedVariables false
set_option maxRecDepth 20000
end Go.Proofs.YtnigjppddilpcaaGreatDoor
namespace Go.Proofs.YtnigjppddilpcaaGreatDoor
open Go Abs
set_option linter.unusedSimpArgs false
set_option linter.unusedVariables false
def aQr (t:List UInt8) (ks:List (List UInt8)):Int:=ks.foldl (fun a k=>IntKind.i64.wrap (a+IntKind.i64.wrap (Int.tdiv (k.length:Int) 8))) (IntKind.i64.wrap (IntKind.i64.wrap (1+IntKind.i64.wrap (Int.tdiv (t.length:Int) 8))+(ks.length:Int)))
mutual
def s23:aG→Int
 | ⟨_,_,t,l,ks⟩=>aPV l (aQr t ks)
def aPV:List aG→Int→Int
 | [],a=>a
 | x :: l,a=>aPV l (IntKind.i64.wrap (a+s23 x))
end
end Go.Proofs.YtnigjppddilpcaaGreatDoor
namespace Go.Proofs.YtnigjppddilpcaaGreatDoor
open Go Abs
set_option linter.unusedSimpArgs false
set_option linter.unusedVariables false
theorem aIL:∀ (n:Nat) (v:aG),tN v≤n→5*nsz v≤PV.bulkRow (bB v):=by
 intro n
 induction n with
 | zero=>intro v h;have:=hZ v;omega
 | succ n ih =>
  intro v h
  have hh:=hZ v
  have key:∀ l:List aG,aDk l≤n→5*kC l≤PV.bulkRows (l.map bB):=by
   intro l
   induction l with
   | nil=>intro _;simp [kC]
   | cons x l ihl =>
    intro hl
    simp only [aDk] at hl
    have a1:=ihl (by omega)
    have a2:=ih x (by omega)
    simp only [kC,List.map_cons,PV.bulkRows];omega
  have:=key v.Items (by omega)
  rw [aKu,aDn];omega
theorem aDo {v:aG} (hr:nL v=true) (hb:nsz v≤1000000):nsz v≤1200:=by
 obtain ⟨d1,d2⟩:=aKF (tN v) v (Nat.le_refl _) hb
 have hw:wth v=true:=by unfold nL at hr;simp only [Bool.and_eq_true] at hr;exact hr.1
 unfold wth at hw
 rw [d1,d2] at hw
 simp only [Bool.and_eq_true,decide_eq_true_eq] at hw
 omega
end Go.Proofs.YtnigjppddilpcaaGreatDoor
namespace Go.Proofs.YtnigjppddilpcaaGreatDoor
open Go Abs
set_option linter.unusedSimpArgs false
set_option linter.unusedVariables false
theorem aOR (c:bI):PV.bulkRow (bB c.Data)≤PV.bulkRow (bR c):=by
 rw [aKu]
 simp only [bR,PV.bulkRow,PV.bulk,PV.ls]
 omega
theorem aPe (q:bK):q.Workflow.length+q.Run.length+q.ID.length+q.Name.length+q.Parent.length+PV.bulkRow (bB q.Data)+PV.bulkRows (q.Commands.map bR)≤PV.bulkRow (fD q):=by
 rw [aKu]
 simp only [fD,PV.bulkRow,PV.bulk,PV.ls]
 omega
def qsm (q:bK):Prop:=q.Workflow.length≤2000000∧q.Run.length≤2000000∧q.ID.length≤2000000∧q.Name.length≤2000000∧q.Parent.length≤2000000∧nsz q.Data≤1000000∧∀ c∈q.Commands,nsz c.Data≤1000000
theorem aKb {q:bK} (hb:PV.bulkRow (fD q)≤1048576):qsm q:=by
 have h1:=aPe q
 have h2:=aIL _ q.Data (Nat.le_refl _)
 refine ⟨by omega,by omega,by omega,by omega,by omega,by omega,fun c hc=>?_⟩
 have h3:=aIo (row:=bR) hc
 have h4:=aOR c
 have h5:=aIL _ c.Data (Nat.le_refl _)
 omega
def vQ (q:bK):List (List UInt8):=[q.Workflow,q.Run,q.ID,q.Name]
def vP (q:bK):List Int:=[q.Token,q.Event,q.Seq,q.N]
def aEd (q:bK):List UInt8:=kB q.Kind++kB q.Time++(vQ q).flatMap nN++(vP q).flatMap kB++pE q.Data++kB q.Commands.length++q.Commands.flatMap aAu++nN q.Parent
theorem vW {q:bK} (h:qU q=true):nL q.Data=true∧q.Commands.length≤200∧q.Commands.all iN=true:=by
 unfold qU at h
 simp only [Bool.and_eq_true,decide_eq_true_eq] at h
 obtain ⟨_,_,_,h4,_,_,_,_,_,_,_,h12,h13,_⟩:=h
 exact ⟨h4,h12,h13⟩
theorem aM5 {q:bK} (h:gA q) (hs:qsm q) (hr:qU q=true):∀ c∈q.Commands,gL c∧iN c=true∧nsz c.Data≤1200:=fun c hc=>by
 obtain ⟨r1,r2,r3⟩:=vW hr
 have hcr:=List.all_eq_true.1 r3 c hc
 exact ⟨h.2.2.2.2.2.2.2.2.2.2.2.2.1.2.2 c hc,hcr,aDo (vT hcr).1 (hs.2.2.2.2.2.2 c hc)⟩
theorem aM6 {q:bK} (h:gA q) (hs:qsm q) (hr:qU q=true):((vQ q).flatMap nN).length≤9000000∧((vP q).flatMap kB).length≤40∧(pE q.Data).length≤10100000∧(q.Commands.flatMap aAu).length≤2200000000∧(∀ n∈vP q,qW n):=by
 obtain ⟨r1,r2,r3⟩:=vW hr
 have hcm:=aM5 h hs hr
 obtain ⟨k0,k1,k2,k3,k4,k5,k6,k7,k8,k9,k10,k11,k12,k13⟩:=h
 obtain ⟨s1,s2,s3,s4,s5,s6,s7⟩:=hs
 have a1:=pS (s:=q.Workflow) (by omega)
 have a2:=pS (s:=q.Run) (by omega)
 have a3:=pS (s:=q.ID) (by omega)
 have a4:=pS (s:=q.Name) (by omega)
 have b1:=iD k6
 have b2:=iD k7
 have b3:=iD k8
 have b4:=iD k9
 have c1:=aJo (tN q.Data) q.Data (Nat.le_refl _) k10 (oG r1).1
 have c2:=aDo r1 s6
 have d1:=aHr aAu 11000000 q.Commands (fun c hc=>by obtain ⟨e1,e2,e3⟩:=hcm c hc;exact (aGQ e1 e2 e3).1)
 refine ⟨?_,?_,by omega,by omega,?_⟩
 ·
  simp only [vQ,List.flatMap_cons,List.flatMap_nil,List.length_append,List.length_nil];omega
 ·
  simp only [vP,List.flatMap_cons,List.flatMap_nil,List.length_append,List.length_nil];omega
 ·
  simp only [vP,List.mem_cons,List.not_mem_nil,or_false]
  rintro n (rfl | rfl | rfl | rfl) <;> assumption
noncomputable def aHA (q:bK):List UInt8 × Int:=if qU q then (if 65536<(aEd q).length then ([],6) else (aEd q,0)) else ([],3)
theorem aBV {q:bK} (h:gA q) (hs:qsm q):jV q=some (aHA q)∧qI q=some (aHA q):=by
 cases hr:qU q
 ·
  unfold jV qI aHA
  rw [qK h,xY h,← aDs,hr]
  exact ⟨rfl,rfl⟩
 ·
  obtain ⟨r1,r2,r3⟩:=vW hr
  have hcm:=aM5 h hs hr
  obtain ⟨l1,l2,l3,l4,l5⟩:=aM6 h hs hr
  have hh:=h
  obtain ⟨k0,k1,k2,k3,k4,k5,k6,k7,k8,k9,k10,k11,k12,k13⟩:=h
  obtain ⟨s1,s2,s3,s4,s5,s6,s7⟩:=hs
  have b1:=iD k0
  have b2:=iD k1
  have okn:qW (q.Commands.length:Int):=⟨by omega,by omega⟩
  have b3:=iD okn
  have b4:=pS (s:=q.Parent) (by omega)
  have hst:∀ s∈vQ q,s.length≤2000000:=by
   simp only [vQ,List.mem_cons,List.not_mem_nil,or_false]
   rintro s (rfl | rfl | rfl | rfl) <;> assumption
  have fin:∀ x:List UInt8,x=aEd q→cond (decide ((65536:Int)<(x.length:Int))) (some (([]:List UInt8),(6:Int))) (some (x,(0:Int)))=some (aHA q):=fun x hx=>by
   subst hx
   unfold aHA
   rw [hr,if_pos rfl,cC]
   by_cases hl:65536<(aEd q).length
   ·
    rw [if_pos (by omega),if_pos hl]
   ·
    rw [if_neg (by omega),if_neg hl]
  constructor
  ·
   unfold jV
   rw [qK hh,hr]
   simp only [Option.bind_some,Bool.not_true,cond_false]
   rw [yF (by simp) k0,Option.bind_some,List.nil_append,yF (by omega) k1,Option.bind_some,
    nG 1000000000000 (vQ q) nN _ (by simp only [List.length_append];omega) (fun s i hi hs=>?_) (fun s=>?_),Option.bind_some,
    nG 1000000000000 (vP q) kB _ (by simp only [List.length_append];omega) (fun s i hi hs=>?_) (fun s=>?_),Option.bind_some,
    aAf k10 (by simp only [List.length_append];omega),(oG r1).2.2,if_pos rfl,Option.bind_some,yF (by simp only [List.length_append];omega) okn,Option.bind_some,
    nG 40000000000 q.Commands aAu _ (by simp only [List.length_append];omega) (fun s i hi hs=>?_) (fun s=>?_),Option.bind_some,aIV (by simp only [List.length_append];omega) (by omega),Option.bind_some]
   ·
    exact fin _ (by unfold aEd;simp only [List.append_assoc])
   ·
    unfold oZ
    obtain ⟨e1,e2,e3⟩:=hcm _ (List.getElem_mem hi)
    simp only [List.length_append] at hs
    rw [cC,if_pos (by simp only;omega),fH hi,Option.bind_some,(aDW e1 e2 e3 (by simp only;omega)).1,Option.bind_some,kM hi hh.2.2.2.2.2.2.2.2.2.2.2.2.1.1]
   ·
    unfold oZ
    rw [cC,if_neg (by simp only;omega)]
   ·
    unfold oY
    simp only [List.length_append] at hs
    rw [cC,if_pos (by simp only [vP] at hi;simp only;omega),show jT [q.Token,q.Event,q.Seq,q.N] (i:Int)=some (vP q)[i] from fH hi,Option.bind_some,yF (by simp only;omega) (l5 _ (List.getElem_mem hi)),Option.bind_some,kM hi (by simp [vP])]
   ·
    unfold oY
    rw [cC,if_neg (by simp [vP])]
   ·
    unfold oX
    simp only [List.length_append] at hs
    have:=hst _ (List.getElem_mem hi)
    rw [cC,if_pos (by simp only [vQ] at hi;simp only;omega),show jT [q.Workflow,q.Run,q.ID,q.Name] (i:Int)=some (vQ q)[i] from fH hi,Option.bind_some,aIV (by simp only;omega) (by omega),Option.bind_some,kM hi (by simp [vQ])]
   ·
    unfold oX
    rw [cC,if_neg (by simp [vQ])]
  ·
   unfold qI
   rw [xY hh,← aDs,hr]
   simp only [Option.bind_some,Bool.not_true,cond_false]
   rw [aAe (by simp) k0,Option.bind_some,List.nil_append,aAe (by omega) k1,Option.bind_some,
    nG 1000000000000 (vQ q) nN _ (by simp only [List.length_append];omega) (fun s i hi hs=>?_) (fun s=>?_),Option.bind_some,
    nG 1000000000000 (vP q) kB _ (by simp only [List.length_append];omega) (fun s i hi hs=>?_) (fun s=>?_),Option.bind_some,
    aCL k10 (by simp only [List.length_append];omega),(oG r1).2.2,if_pos rfl,Option.bind_some,aAe (by simp only [List.length_append];omega) okn,Option.bind_some,
    nG 40000000000 q.Commands aAu _ (by simp only [List.length_append];omega) (fun s i hi hs=>?_) (fun s=>?_),Option.bind_some,aD4 (by simp only [List.length_append];omega) (by omega),Option.bind_some]
   ·
    exact fin _ (by unfold aEd;simp only [List.append_assoc])
   ·
    unfold rM
    obtain ⟨e1,e2,e3⟩:=hcm _ (List.getElem_mem hi)
    simp only [List.length_append] at hs
    rw [cC,if_pos (by simp only;omega),fH hi,Option.bind_some,(aDW e1 e2 e3 (by simp only;omega)).2,Option.bind_some,kM hi hh.2.2.2.2.2.2.2.2.2.2.2.2.1.1]
   ·
    unfold rM
    rw [cC,if_neg (by simp only;omega)]
   ·
    unfold rL
    simp only [List.length_append] at hs
    rw [cC,if_pos (by simp only [vP] at hi;simp only;omega),show jT [q.Token,q.Event,q.Seq,q.N] (i:Int)=some (vP q)[i] from fH hi,Option.bind_some,aAe (by simp only;omega) (l5 _ (List.getElem_mem hi)),Option.bind_some,kM hi (by simp [vP])]
   ·
    unfold rL
    rw [cC,if_neg (by simp [vP])]
   ·
    unfold rK
    simp only [List.length_append] at hs
    have:=hst _ (List.getElem_mem hi)
    rw [cC,if_pos (by simp only [vQ] at hi;simp only;omega),show jT [q.Workflow,q.Run,q.ID,q.Name] (i:Int)=some (vQ q)[i] from fH hi,Option.bind_some,aD4 (by simp only;omega) (by omega),Option.bind_some,kM hi (by simp [vQ])]
   ·
    unfold rK
    rw [cC,if_neg (by simp [vQ])]
end Go.Proofs.YtnigjppddilpcaaGreatDoor
namespace Go.Proofs.YtnigjppddilpcaaGreatDoor
open Go Abs
set_option linter.unusedSimpArgs false
set_option linter.unusedVariables false
def zV:aG:=⟨0,0,[],[],[]⟩
theorem aOB:cP zV:=by
 refine (eM _).2 ⟨?_,?_,?_,?_,?_⟩ <;> simp [zV,qW,okS,aCD]
end Go.Proofs.YtnigjppddilpcaaGreatDoor
namespace Go.Proofs.YtnigjppddilpcaaGreatDoor
open Go Abs
set_option linter.unusedSimpArgs false
set_option linter.unusedVariables false
def zP:cE:=⟨[],0,0,0,0,0,0,0,0,[]⟩
theorem aOA:fR zP:=by
 simp [fR,zP,qW,okS,aCD]
end Go.Proofs.YtnigjppddilpcaaGreatDoor
namespace Go.Proofs.YtnigjppddilpcaaGreatDoor
open Go Abs
set_option linter.unusedSimpArgs false
set_option linter.unusedVariables false
end Go.Proofs.YtnigjppddilpcaaGreatDoor
namespace Go.Proofs.YtnigjppddilpcaaGreatDoor
open Go Abs
set_option linter.unusedSimpArgs false
set_option linter.unusedVariables false
def aNA (r r':aQ) (x:List UInt8):Prop:=∀ rest,At r' rest→At r (x++rest)
theorem aNA.trans {r s t:aQ}{x y:List UInt8} (h:aNA r s x) (k:aNA s t y):aNA r t (x++y):=fun rest ht=>by rw [List.append_assoc];exact h _ (k _ ht)
end Go.Proofs.YtnigjppddilpcaaGreatDoor
namespace Go.Proofs.YtnigjppddilpcaaGreatDoor
open Go Abs
set_option linter.unusedSimpArgs false
set_option linter.unusedVariables false
theorem aLO {l:List UInt8}{low high:Int} (h:(kY l low high).2.2≠0):(kY l low high).1=0:=by
 unfold kY at h ⊢
 split
 ·
  rfl
 ·
  rename_i w n hs
  rw [hs] at h
  simp only at h ⊢
  split
  ·
   rfl
  ·
   rename_i hc
   rw [if_neg hc] at h
   exact absurd rfl h
theorem aMJ {e e':Int}{r r':aQ}{w w':fQ}{x low high:Int} (hl:aER e r w) (hl':aER e' r' w') (h:eP low high r=some (x,r')) (he:e'≠0):x=0:=by
 obtain ⟨b,a,hb,ha,rfl,rfl⟩:=hl
 by_cases h0:e=0
 ·
  subst h0
  rw [aFe ha hb] at h
  cases h
  obtain ⟨b',a',_,_,h3,_⟩:=hl'
  unfold xZ at h3
  simp only [aQ.mk.injEq] at h3
  have:=h3.2.2.1
  exact aLO (by omega)
 ·
  have:eP low high ⟨b,a,e,true⟩=some (0,⟨b,a,e,true⟩):=by unfold eP;rw [aCs];simp [h0]
  rw [this] at h
  cases h
  rfl
end Go.Proofs.YtnigjppddilpcaaGreatDoor
namespace Go.Proofs.YtnigjppddilpcaaGreatDoor
open Go Abs
set_option linter.unusedSimpArgs false
set_option linter.unusedVariables false
theorem le_any {e:Int}{r:aQ}{w:fQ} (h:aER e r w):∃ x e' r' w',gF r=some (x,r')∧aFD w=some (x,w')∧aER e' r' w'∧qW x∧(e'≠0→x=0):=by
 obtain ⟨x,e',r',w',h1,h2,h3,h4,h5,h6⟩:=aMO (-9223372036854775808) 9223372036854775807 h
 exact ⟨x,e',r',w',by unfold gF;rw [h1];rfl,by unfold aFD;rw [h2];rfl,h3,h4,fun he=>aMJ h h3 h1 he⟩
end Go.Proofs.YtnigjppddilpcaaGreatDoor
namespace Go.Proofs.YtnigjppddilpcaaGreatDoor
open Go Abs
set_option linter.unusedSimpArgs false
set_option linter.unusedVariables false
def zQ:bK:=⟨0,0,[],[],[],[],0,0,0,0,zV,zP,[],[]⟩
end Go.Proofs.YtnigjppddilpcaaGreatDoor
namespace Go.Proofs.YtnigjppddilpcaaGreatDoor
open Go Abs
set_option linter.unusedSimpArgs false
set_option linter.unusedVariables false
end Go.Proofs.YtnigjppddilpcaaGreatDoor
namespace Go.Proofs.YtnigjppddilpcaaGreatDoor
open Go Abs
set_option linter.unusedSimpArgs false
set_option linter.unusedVariables false
theorem aOz (a:BitVec 32):BitVec.ofInt 32 (a.toNat:Int)=a:=by rw [BitVec.ofInt_natCast];simp
theorem w32 {n:Nat} (h:n<4294967296):IntKind.u32.wrap (n:Int)=(n:Int):=by
 simp only [IntKind.wrap,IntKind.bits,IntKind.signed]
 simp
 omega
theorem x32 (a b:BitVec 32):gO .xor .u32 (a.toNat:Int) (b.toNat:Int)=((a ^^^ b).toNat:Int):=by
 show IntKind.u32.wrap ((BitVec.ofInt 32 (a.toNat:Int) ^^^ BitVec.ofInt 32 (b.toNat:Int)).toNat:Int)=_
 rw [aOz,aOz,w32 (a ^^^ b).isLt]
end Go.Proofs.YtnigjppddilpcaaGreatDoor
namespace Go.Proofs.YtnigjppddilpcaaGreatDoor
open Go Abs
set_option linter.unusedSimpArgs false
set_option linter.unusedVariables false
end Go.Proofs.YtnigjppddilpcaaGreatDoor
namespace Go.Proofs.YtnigjppddilpcaaGreatDoor
open Go Abs
set_option linter.unusedSimpArgs false
set_option linter.unusedVariables false
theorem aOQ {r:aQ} (h:At r []):kP r=some 0:=by
 obtain ⟨b,a,h1,h2,rfl,h3⟩:=h
 have:¬a<b.length:=fun hh=>by
  have:=congrArg List.length h3
  simp only [List.length_drop,List.length_nil] at this;omega
 unfold kP eO
 simp only [Option.bind_some,decide_true,Bool.not_true,cond_false]
 rw [cC,if_neg (by omega)]
end Go.Proofs.YtnigjppddilpcaaGreatDoor
namespace Go.Proofs.YtnigjppddilpcaaGreatDoor
open Go Abs
set_option linter.unusedSimpArgs false
set_option linter.unusedVariables false
theorem aBP {r:aQ}{n:Int}{rest:List UInt8} (h:At r (kB n++rest)) (hn:qW n):∃ r',gF r=some (n,r')∧At r' rest:=by
 obtain ⟨r',h1,h2⟩:=aBQ (low:=-9223372036854775808) (high:=9223372036854775807) h hn hn.1 hn.2
 exact ⟨r',by unfold gF;rw [h1];rfl,h2⟩
theorem aEX {r:aQ}{s rest:List UInt8} (h:At r (nN s++rest)) (hs:s.length≤4096):∃ r',lA r=some (s,r')∧At r' rest:=by
 obtain ⟨r',h1,h2⟩:=yU (most:=4096) h (by omega)
 exact ⟨r',by unfold lA;rw [h1];rfl,h2⟩
theorem aLk {r:aQ}{s:List UInt8} (h:At r s) (hs:s≠[]):kP r=some 3:=by
 obtain ⟨b,a,h1,h2,rfl,rfl⟩:=h
 have:a<b.length:=Classical.byContradiction fun hh=>hs (List.drop_eq_nil_of_le (by omega))
 unfold kP eO
 simp only [Option.bind_some,decide_true,Bool.not_true,cond_false]
 rw [cC,if_pos (by omega)]
theorem aHo {r:aQ}{l:List bI}{rest:List UInt8} (h:At r (kB l.length++(l.flatMap aAu++rest))) (hl:l.length≤200) (hc:∀ c∈l,gL c∧iN c=true∧nsz c.Data≤1200):∃ r',eW 200 r=some (l,r')∧At r' rest:=by
 obtain ⟨r1,a1,l1⟩:=aBP h ⟨by omega,by omega⟩
 have hin:inB (l.length:Int) 0 200=true:=by unfold inB;simp;omega
 have hg:(gd ((decide ((0:Int)=(0:Int)))==true) (some true)).bind (fun (b:Bool)=>cond (cond (decide ((0:Int)=(0:Int))) (!b) false) ((iJ (3:Int) r1).bind fun (x:aQ)=>some x) (some r1))=some r1:=by simp [gd]
 have key:∃ x,eQ (fK ((l.length:Int),r1)) (([]:List bI),(0:Int),r1)=some x∧x.1=l∧At x.2 rest:=by
  refine rE (fun s=>∃ i:Nat,s.1=l.take i∧s.2.1=(i:Int)∧i≤l.length∧At s.2.2 ((l.drop i).flatMap aAu++rest)) (fun s=>l.length - s.2.1.toNat) _ ?_ _ ⟨0,rfl,rfl,by omega,l1⟩
  rintro ⟨acc,i0,r2⟩ ⟨i,ha,hi0,hi,hr⟩
  simp only at ha hi0 hr
  subst ha hi0
  unfold fK
  simp only
  by_cases hlt:i<l.length
  ·
   rw [aBj aAu l i hlt,List.append_assoc] at hr
   obtain ⟨r3,d1,d2⟩:=(by obtain ⟨q1,q2,q3⟩:=hc _ (List.getElem_mem hlt);exact aMs hr q1 q2 q3)
   rw [cC,if_pos (by omega),sH hr,Option.bind_some]
   simp only [decide_true,cond_true,Option.bind_some,Fl.next]
   rw [d1,Option.bind_some,qS (by simp only [List.length_take,List.length_cons,List.length_nil];omega),Option.bind_some]
   refine .inl ⟨_,rfl,⟨i+1,?_,kM hlt (by omega),hlt,d2⟩,by simp only;rw [kM hlt (by omega)];simp only [Int.toNat_natCast];omega⟩
   simp only
   rw [List.take_succ_eq_append_getElem hlt]
  ·
   obtain rfl:i=l.length:=by omega
   rw [cC,if_neg (by omega)]
   refine .inr ⟨_,rfl,List.take_length,?_⟩
   rw [List.drop_length] at hr
   exact hr
 obtain ⟨⟨m,r4⟩,k1,k2,k3⟩:=key
 simp only at k2 k3
 subst k2
 unfold eW
 rw [a1,Option.bind_some]
 simp only
 rw [sH l1,Option.bind_some,uK,hin,hg,Option.bind_some,k1,Option.bind_some]
 exact ⟨r4,rfl,k3⟩
theorem aKT {s:List UInt8} (h:aB1 s=true):s.length≤4096:=by
 unfold aB1 at h
 simp only [Bool.or_eq_true,decide_eq_true_eq] at h
 rcases h with h | h
 ·
  rw [h];simp
 ·
  rcases aDZ s with ⟨v,h1,h2,h3,h4⟩ | ⟨h1,h2⟩
  ·
   rw [← h3,aFI h1]
   have:=aCt 18 v.toNat (by omega)
   simp only [List.length_cons];omega
  ·
   rw [h2] at h;cases h
theorem idK:∀ i:Fin 18,(nT (i.1:Int)).id_=true→i.1=1∨i.1=2∨i.1=3∨i.1=5∨i.1=15:=by decide
theorem aPS {q:bK} (hr:qU q=true):q.Workflow.length≤4096∧q.Run.length≤4096∧q.ID.length≤4096∧q.Name.length≤4096∧q.Parent.length≤4096∧q.Opts=zP:=by
 unfold qU at hr
 simp only [Bool.and_eq_true,decide_eq_true_eq] at hr
 obtain ⟨h1,h2,h3,h4,h5,h6,h7,h8,h9,h10,h11,h12,h13,h14,h15⟩:=hr
 unfold vI at h3
 simp only [Bool.and_eq_true,Bool.or_eq_true,decide_eq_true_eq] at h3
 obtain ⟨⟨⟨⟨⟨⟨⟨⟨⟨b1,b2⟩,b3⟩,b4⟩,b5⟩,b6⟩,b7⟩,b8⟩,b9⟩,b10⟩:=h3
 have hi:∀ {s:List UInt8},iZ s=true→s.length≤64:=fun h=>by
  unfold iZ at h
  simp only [Bool.and_eq_true,decide_eq_true_eq] at h
  exact h.1.2
 refine ⟨?_,aKT h6,?_,?_,?_,aFs b10⟩
 ·
  split at h5
  ·
   simp only [decide_eq_true_eq] at h5;rw [h5];simp
  ·
   have:=hi h5;omega
 ·
  rcases b1 with b1 | b1
  ·
   unfold inB at h1
   simp only [Bool.and_eq_true,decide_eq_true_eq] at h1
   have hk:=idK ⟨q.Kind.toNat,by omega⟩
   simp only at hk
   rw [show ((q.Kind.toNat:Nat):Int)=q.Kind by omega] at hk
   have hk:=hk b1
   unfold zF at h15
   by_cases hk15:q.Kind=15
   ·
    rw [if_pos hk15] at h15
    simp only [Bool.and_eq_true] at h15
    exact aKT h15.1
   ·
    rw [if_neg hk15,if_neg (by omega),if_neg (by omega),if_neg (by omega),b1] at h15
    simp only [Bool.and_eq_true,Bool.not_true,Bool.false_or] at h15
    have:=hi h15.1
    omega
  ·
   rw [b1];simp
 ·
  rcases b2 with b2 | b2
  ·
   unfold zF at h15
   split at h15
   ·
    simp only [Bool.and_eq_true,decide_eq_true_eq] at h15;omega
   ·
    split at h15
    ·
     simp only [decide_eq_true_eq] at h15;omega
    ·
     split at h15
     ·
      simp only [decide_eq_true_eq] at h15;omega
     ·
      split at h15
      ·
       have:=hi h15;omega
      ·
       rw [b2] at h15
       simp only [Bool.and_eq_true,Bool.not_true,Bool.false_or] at h15
       have:=aBT h15.2
       omega
  ·
   rw [b2];simp
 ·
  unfold aGj at h11
  simp only [Bool.and_eq_true,Bool.or_eq_true,decide_eq_true_eq] at h11
  rcases h11 with h | h
  ·
   rw [h];simp
  ·
   omega
theorem aHI {q:bK}{s:List UInt8} (h:gA q) (hs:qsm q) (hr:qU q=true) (hl:(aEd q++s).length≤1000000000):pO (aEd q++s)=some (if s=[] then (q,0) else (zQ,3)):=by
 obtain ⟨l1,l2,l3,l4,l5,l6⟩:=aPS hr
 obtain ⟨p1,p2,p3⟩:=vW hr
 have hcm:=aM5 h hs hr
 have hh:=h
 obtain ⟨k0,k1,k2,k3,k4,k5,k6,k7,k8,k9,k10,k11,k12,k13⟩:=h
 obtain ⟨r,o1,o2⟩:=aNG hl
 have he:aEd q++s=kB q.Kind++(kB q.Time++(nN q.Workflow++(nN q.Run++(nN q.ID++(nN q.Name++(kB q.Token++(kB q.Event++(kB q.Seq++(kB q.N++(pE q.Data++(kB q.Commands.length++(q.Commands.flatMap aAu++(nN q.Parent++s))))))))))))):=by
  unfold aEd vQ vP
  simp only [List.flatMap_cons,List.flatMap_nil,List.append_nil,List.append_assoc]
 rw [he] at o2
 obtain ⟨r1,a1,t1⟩:=aBP o2 k0
 obtain ⟨r2,a2,t2⟩:=aBP t1 k1
 obtain ⟨r3,a3,t3⟩:=aEX t2 l1
 obtain ⟨r4,a4,t4⟩:=aEX t3 l2
 obtain ⟨r5,a5,t5⟩:=aEX t4 l3
 obtain ⟨r6,a6,t6⟩:=aEX t5 l4
 obtain ⟨r7,a7,t7⟩:=aBP t6 k6
 obtain ⟨r8,a8,t8⟩:=aBP t7 k7
 obtain ⟨r9,a9,t9⟩:=aBP t8 k8
 obtain ⟨r10,a10,t10⟩:=aBP t9 k9
 obtain ⟨r11,a11,t11⟩:=xT t10 k10 p1 (aDo p1 hs.2.2.2.2.2.1)
 obtain ⟨r12,a12,t12⟩:=aHo t11 p2 hcm
 obtain ⟨r13,a13,t13⟩:=aEX t12 l5
 unfold pO
 rw [show (cE.mk [] 0 0 0 0 0 0 0 0 [])=zP from rfl,show (aG.mk 0 0 [] [] [])=zV from rfl,show (bK.mk 0 0 [] [] [] [] 0 0 0 0 zV zP [] [])=zQ from rfl]
 rw [o1,Option.bind_some,a1,Option.bind_some,a2,Option.bind_some,a3,Option.bind_some,a4,Option.bind_some,a5,Option.bind_some,a6,Option.bind_some,a7,Option.bind_some,a8,Option.bind_some,a9,Option.bind_some,a10,Option.bind_some,a11,Option.bind_some,a12,Option.bind_some,a13,Option.bind_some]
 have hq:(bK.mk q.Kind q.Time q.Workflow q.Run q.ID q.Name q.Token q.Event q.Seq q.N q.Data zP q.Commands q.Parent)=q:=by rw [← l6]
 rw [hq]
 by_cases hs0:s=[]
 ·
  subst hs0
  rw [aOQ t13,Option.bind_some,qK hh,hr]
  simp
 ·
  rw [aLk t13 hs0,Option.bind_some]
  simp [hs0]
end Go.Proofs.YtnigjppddilpcaaGreatDoor
namespace Go.Proofs.YtnigjppddilpcaaGreatDoor
open Go Abs
set_option linter.unusedSimpArgs false
set_option linter.unusedVariables false
def q14:bK:=⟨14,3,[],[],[],[],0,0,0,0,⟨0,0,[],[],[]⟩,⟨[],0,0,0,0,0,0,0,0,[]⟩,[],[]⟩
def q02:bK:=⟨2,0,[119],[],[97,47,98],[115],0,0,0,0,⟨0,0,[],[],[]⟩,⟨[],0,0,0,0,0,0,0,0,[]⟩,[],[]⟩
theorem aJ6:gA q14:=⟨by simp [q14,qW],by simp [q14,qW],by simp [q14,okS],by simp [q14,okS],by simp [q14,okS],by simp [q14,okS],by simp [q14,qW],by simp [q14,qW],by simp [q14,qW],by simp [q14,qW],aOB,aOA,⟨by simp [q14],by simp [q14],by simp [q14]⟩,by simp [q14,okS]⟩
theorem aO7:gA q02:=⟨by simp [q02,qW],by simp [q02,qW],by simp [q02,okS],by simp [q02,okS],by simp [q02,okS],by simp [q02,okS],by simp [q02,qW],by simp [q02,qW],by simp [q02,qW],by simp [q02,qW],aOB,aOA,⟨by simp [q02],by simp [q02],by simp [q02]⟩,by simp [q02,okS]⟩
theorem aNj:qsm q14:=aKb (by decide +kernel)
theorem aPo:qsm q02:=aKb (by decide +kernel)
theorem aOI:qU q14=true:=by decide +kernel
theorem aPU:qU q02=false:=by decide +kernel
theorem aMz:aEd q14=[28,6,0,0,0,0,0,0,0,0,0,0,0]:=by decide +kernel
theorem aEO:nO=some true:=by
 unfold nO
 rw [show bK.mk 14 _ _ _ _ _ _ _ _ _ _ _ _ _=q14 from rfl,show bK.mk 2 _ _ _ _ _ _ _ _ _ _ _ _ _=q02 from rfl,(aBV aJ6 aNj).1,(aBV aO7 aPo).1]
 have h1:aHA q14=(aEd q14,0):=by unfold aHA;rw [aOI,if_pos rfl,if_neg (by rw [aMz];decide)]
 have h2:aHA q02=([],3):=by unfold aHA;rw [aPU];rfl
 have h3:=aHI (s:=[]) aJ6 aNj aOI (by rw [aMz];decide)
 rw [List.append_nil,if_pos rfl] at h3
 rw [h1,h2,Option.bind_some]
 simp only
 rw [h3,Option.bind_some,Option.bind_some,aFC aJ6,aMz]
 rfl
end Go.Proofs.YtnigjppddilpcaaGreatDoor
namespace Go.Proofs.YtnigjppddilpcaaGreatDoor
open Go Abs
set_option linter.unusedSimpArgs false
set_option linter.unusedVariables false
theorem aNX (k:Int):∃ s,qJ k=some s∧wV k=some s:=by
 have e:wV k=qJ k:=rfl
 rw [e]
 unfold qJ
 rw [uK,Option.bind_some]
 cases h:inB k 1 17
 ·
  exact ⟨_,rfl,rfl⟩
 ·
  unfold inB at h
  simp only [Bool.and_eq_true,decide_eq_true_eq] at h
  rw [Bool.not_true,cond_false,w64 (by omega) (by omega),show k - 1=(((k - 1).toNat:Nat):Int) by omega,fH (by simp only [List.length_cons,List.length_nil];omega),Option.bind_some]
  exact ⟨_,rfl,rfl⟩
theorem aCg (q:bK) (h:gA q):lH q=some true:=by
 unfold lH
 by_cases hl:(300:Int)<q.Commands.length
 ·
  rw [decide_eq_true hl,cond_true,aEO];rfl
 ·
  obtain ⟨s,h1,h2⟩:=aNX q.Kind
  rw [decide_eq_false hl,cond_false,qK h,Option.bind_some,xY h,Option.bind_some,← aDs,h1,h2,aEO]
  cases qU q <;> simp [gd]
end Go.Proofs.YtnigjppddilpcaaGreatDoor
namespace Go.Proofs.YtnigjppddilpcaaGreatDoor
open Go Abs
set_option linter.unusedSimpArgs false
set_option linter.unusedVariables false
theorem aBl (q:bK) (h:gA q) (hb:PV.bulkRow (fD q)+0≤1048576):jU q=some true:=by
 unfold jU
 by_cases hl:(300:Int)<q.Commands.length
 ·
  rw [decide_eq_true hl,cond_true,aEO];rfl
 ·
  obtain ⟨e1,e2⟩:=aBV h (aKb (by omega))
  rw [decide_eq_false hl,cond_false,e1,Option.bind_some,e2,Option.bind_some,aEO]
  simp [gd]
end Go.Proofs.YtnigjppddilpcaaGreatDoor

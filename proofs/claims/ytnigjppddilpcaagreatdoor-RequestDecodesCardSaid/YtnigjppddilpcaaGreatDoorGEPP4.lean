/- Plain laws: what the functions compute, with no program in sight. -/
import Derived.Test.YtnigjppddilpcaaGreatDoorGEPP3
import Derived.Test.YtnigjppddilpcaaGreatDoorGEF14
import Derived.Test.YtnigjppddilpcaaGreatDoorGEF17
import Derived.Test.YtnigjppddilpcaaGreatDoorGEF18
import Derived.Test.YtnigjppddilpcaaGreatDoorGEPP2
namespace Go.Proofs.YtnigjppddilpcaaGreatDoor
open Go Abs
set_option linter.unusedSimpArgs false
set_option linter.unusedVariables false
theorem aM4 {l:List dH} (h:aAc 272 mD l):fX l=some (l.any fun c=>!wX c):=by
 unfold fX iH
 obtain ⟨x,h1,h2⟩:=aA8 (body:=fY l) l (fun c=>!wX c) (fun i hi=>by
  unfold fY uE
  rw [dW,bH (by omega),kM hi,aA,aCk (h.2.2 _ (dB hi)),aA,aA,vN hi h.1]
  cases wX l[i] <;> rfl) (by
  unfold fY
  rw [dW,bE (by omega)])
 rw [h1,aA,h2]
noncomputable def aIL (a:jW):Bool:=inB a.Err 0 30&&(aFk a.Run&&(decide (0≤a.Token)&&(nU a.Data&&(decide (a.Events.length≤2000)&&a.Events.all wX))))
theorem aJ7 {a:jW} (h:aA9 a):sZ a=some (aIL a):=by
 obtain ⟨h1,h2,h3,h4,h5,h6⟩:=h
 have hr:a.Run.length≤140737488355328:=iR h2 (by decide)
 unfold sZ aIL
 have e1:(a.Events.any fun c=>!wX c)=!a.Events.all wX:=by rw [eO];simp
 have e2:decide ((a.Events.length:Int)≤2000)=decide (a.Events.length≤2000):=by rw [eO];simp;omega
 rw [wV,aCE hr,aAT h5,aM4 h6,e1,e2,aA]
 generalize inB a.Err 0 30=b1
 generalize aFk a.Run=b2
 generalize decide (0≤a.Token)=b3
 generalize nU a.Data=b4
 generalize decide (a.Events.length≤2000)=b5
 generalize a.Events.all wX=b6
 cases b1 <;> cases b2 <;> cases b3 <;> cases b4 <;> cases b5 <;> cases b6 <;> rfl
theorem aHo {a:jW} (h:aA9 a):vG a=some (aIL a):=by
 obtain ⟨h1,h2,h3,h4,h5,h6⟩:=h
 have hr:a.Run.length≤140737488355328:=iR h2 (by decide)
 unfold vG aIL
 have e2:decide ((a.Events.length:Int)≤2000)=decide (a.Events.length≤2000):=by rw [eO];simp;omega
 rw [aFN a.Events wX false (fun i hi=>?_) ?_,aA,aDT,aEQ hr,zL h5,e2,aA]
 ·
  generalize inB a.Err 0 30=b1
  generalize aFk a.Run=b2
  generalize decide (0≤a.Token)=b3
  generalize nU a.Data=b4
  generalize decide (a.Events.length≤2000)=b5
  generalize a.Events.all wX=b6
  cases b1 <;> cases b2 <;> cases b3 <;> cases b4 <;> cases b5 <;> cases b6 <;> rfl
 ·
  unfold vA
  rw [dW,bE (by omega)]
 ·
  unfold vA
  rw [dW,bH (by omega),kM hi,aA,aDS (h6.2.2 _ (dB hi)),aA,vN hi h6.1]
  cases wX a.Events[i] <;> rfl
theorem aGD {a:jW} (h:aA9 a):wN a a=some true:=by
 obtain ⟨h1,h2,h3,h4,h5,h6⟩:=h
 unfold wN
 rw [aCD h5,aBi,aFN a.Events (fun _=>true) false (fun i hi=>?_) ?_]
 ·
  simp [gd,Fl.next]
 ·
  unfold vV
  rw [dW,bE (by omega)]
 ·
  unfold vV
  rw [dW,bH (by omega),kM hi,aA,aA,aLq (h6.2.2 _ (dB hi)),aNQ,aA,vN hi h6.1]
  rfl
def zQ:dE:=⟨0,0,[],[],[],[],0,0,0,0,zV,zP,[],[]⟩
theorem aSV:pD zQ:=⟨by simp [zQ,sQ],by simp [zQ,sQ],by simp [zQ,okS],by simp [zQ,okS],by simp [zQ,okS],by simp [zQ,okS],by simp [zQ,sQ],by simp [zQ,sQ],by simp [zQ,sQ],by simp [zQ,sQ],aHX,aMD,⟨by simp [zQ],by simp [zQ],by simp [zQ]⟩,by simp [zQ,okS]⟩
def zA:jW:=⟨0,[],0,0,zV,[]⟩
theorem aST:aA9 zA:=⟨by simp [zA,sQ],by simp [zA,okS],by simp [zA,sQ],by simp [zA,sQ],aHX,⟨by simp [zA],by simp [zA],by simp [zA]⟩⟩
theorem aNY {b:List UInt8} (hb:b.length≤1000000000):∃ q e,qZ b=some (q,e)∧aAK b=some (q,e)∧pD q∧(e=0→aEJ q=true):=by
 obtain ⟨r,w,o1,o2,h⟩:=aOJ hb
 obtain ⟨x1,e1,r1,w1,a1,b1,h1,k1,-⟩:=le_any h
 obtain ⟨x2,e2,r2,w2,a2,b2,h2,k2,-⟩:=le_any h1
 obtain ⟨x3,e3,r3,w3,a3,b3,h3,k3⟩:=aHf h2
 obtain ⟨x4,e4,r4,w4,a4,b4,h4,k4⟩:=aHf h3
 obtain ⟨x5,e5,r5,w5,a5,b5,h5,k5⟩:=aHf h4
 obtain ⟨x6,e6,r6,w6,a6,b6,h6,k6⟩:=aHf h5
 obtain ⟨x7,e7,r7,w7,a7,b7,h7,k7,-⟩:=le_any h6
 obtain ⟨x8,e8,r8,w8,a8,b8,h8,k8,-⟩:=le_any h7
 obtain ⟨x9,e9,r9,w9,a9,b9,h9,k9,-⟩:=le_any h8
 obtain ⟨y1,f1,s1,t1,c1,d1,g1,j1,-⟩:=le_any h9
 obtain ⟨y2,f2,s2,t2,c2,d2,g2,j2,-⟩:=aGp g1
 obtain ⟨y3,f3,s3,t3,n3,v3,c3,d3,d3',g3,j3⟩:=aLe (most:=200) g2 (by decide) (by decide)
 obtain ⟨y4,f4,s4,t4,c4,d4,g4,j4⟩:=aHf g3
 obtain ⟨y5,c5,d5,-⟩:=aQT g4
 have hq:pD (dE.mk x1 x2 x3 x4 x5 x6 x7 x8 x9 y1 y2 zP y3 y4):=⟨k1,k2,k3,k4,k5,k6,k7,k8,k9,j1,j2,aMD,j3,j4⟩
 unfold qZ aAK
 rw [show (dS.mk [] 0 0 0 0 0 0 0 0 [])=zP from rfl,show (aQ.mk 0 0 [] [] [])=zV from rfl,show (dE.mk 0 0 [] [] [] [] 0 0 0 0 zV zP [] [])=zQ from rfl]
 rw [o1,aA,a1,aA,a2,aA,a3,aA,a4,aA,a5,aA,a6,aA,a7,aA,a8,aA,a9,aA,c1,aA,c2,aA,c3,aA,c4,aA,c5,aA]
 rw [o2,aA,b1,aA,b2,aA,b3,aA,b4,aA,b5,aA,b6,aA,b7,aA,b8,aA,b9,aA,d1,aA,d2,aA,d3,aA,d3',aA,d4,aA,d5,aA]
 rw [yR hq,aJ3 hq,← aPM]
 by_cases hy:y5=0
 ·
  cases hr:aEJ (dE.mk x1 x2 x3 x4 x5 x6 x7 x8 x9 y1 y2 zP y3 y4)
  ·
   exact ⟨zQ,3,by simp [hy],by simp [hy],aSV,fun h=>absurd h (by decide)⟩
  ·
   exact ⟨_,0,by simp [hy],by simp [hy],hq,fun _=>hr⟩
 ·
  exact ⟨zQ,y5,by simp [hy],by simp [hy],aSV,fun h=>absurd h hy⟩
theorem aQW {b:List UInt8} (hb:b.length≤1000000000):∃ q e,sA b=some (q,e)∧uB b=some (q,e)∧aA9 q:=by
 obtain ⟨r,w,o1,o2,h⟩:=aOJ hb
 obtain ⟨x1,e1,r1,w1,a1,b1,h1,k1,-⟩:=le_any h
 obtain ⟨x2,e2,r2,w2,a2,b2,h2,k2⟩:=aHf h1
 obtain ⟨x3,e3,r3,w3,a3,b3,h3,k3,-⟩:=le_any h2
 obtain ⟨x4,e4,r4,w4,a4,b4,h4,k4,-⟩:=le_any h3
 obtain ⟨y2,f2,s2,t2,c2,d2,g2,j2,-⟩:=aGp h4
 obtain ⟨y3,f3,s3,t3,n3,v3,c3,d3,d3',g3,j3⟩:=aLf (most:=2000) g2 (by decide) (by decide)
 obtain ⟨y5,c5,d5,-⟩:=aQT g3
 have hq:aA9 (jW.mk x1 x2 x3 x4 y2 y3):=⟨k1,k2,k3,k4,j2,j3⟩
 unfold sA uB
 rw [show (aQ.mk 0 0 [] [] [])=zV from rfl,show (jW.mk 0 [] 0 0 zV [])=zA from rfl]
 rw [o1,aA,a1,aA,a2,aA,a3,aA,a4,aA,c2,aA,c3,aA,c5,aA]
 rw [o2,aA,b1,aA,b2,aA,b3,aA,b4,aA,d2,aA,d3,aA,d3',aA,d5,aA]
 rw [aJ7 hq,aHo hq]
 by_cases hy:y5=0
 ·
  cases hr:aIL (jW.mk x1 x2 x3 x4 y2 y3)
  ·
   exact ⟨zA,3,by simp [hy],by simp [hy],aST⟩
  ·
   exact ⟨_,0,by simp [hy],by simp [hy],hq⟩
 ·
  exact ⟨zA,y5,by simp [hy],by simp [hy],aST⟩
theorem aFg (b:List UInt8):qV b=some true:=by
 unfold qV
 by_cases hl:(70000:Int)<b.length
 ·
  rw [tU hl,dJ,aO6];rfl
 ·
  obtain ⟨q,e,a1,a2,a3,-⟩:=aNY (b:=b) (by omega)
  obtain ⟨p,f,b1,b2,b3⟩:=aQW (b:=b) (by omega)
  rw [lZ hl,cC,a1,aA,a2,aA,b1,aA,b2,aA,aEP a3,aGD b3,aO6]
  simp [gd]

/- Plain laws: what the functions compute, with no program in sight. -/
import Derived.Test.YtnigjppddilpcaaGreatDoorGEPP2
import Derived.Test.YtnigjppddilpcaaGreatDoorGEF4
import Derived.Test.YtnigjppddilpcaaGreatDoorGEF6
import Derived.Test.YtnigjppddilpcaaGreatDoorGEF12
import Derived.Test.YtnigjppddilpcaaGreatDoorGEPP1
import Derived.Test.YtnigjppddilpcaaGreatDoorGEPP0
import Derived.Test.YtnigjppddilpcaaGreatDoorGEF5
import Derived.Test.YtnigjppddilpcaaGreatDoorGEF7
namespace Go.Proofs.YtnigjppddilpcaaGreatDoor
open Go Abs
set_option linter.unusedSimpArgs false
set_option linter.unusedVariables false
set_option maxRecDepth 20000
theorem aT4 {sq rf n cd:Int}{nm ky:List UInt8}{d:aF}{op:bV} (hz:dX d=true→hD d iH=decide (d.Kind=0)):(dX d&&(kE (gZ 1) ⟨0,1,0,sq,rf,n,cd,nm,ky,d,op⟩&&(!(gZ 1).seq_||inB sq 1 2000)&&(!(gZ 1).ref_||inB rf 1 2000)&&nH ⟨0,1,0,sq,rf,n,cd,nm,ky,d,op⟩))=(iY (jA 1) ⟨0,1,0,sq,rf,n,cd,nm,ky,d,op⟩&&nM ⟨0,1,0,sq,rf,n,cd,nm,ky,d,op⟩):=by
 unfold kE iY gZ jA nH nM
 simp only [Int.reduceEq,bC,bP,bS,aZ,dW,cV,bQ,cD,cR,cY,cL,dG,bE,cH]
 grind
theorem aT5 {sq rf n cd:Int}{nm ky:List UInt8}{d:aF}{op:bV} (hz:dX d=true→hD d iH=decide (d.Kind=0)):(dX d&&(kE (gZ 2) ⟨0,2,0,sq,rf,n,cd,nm,ky,d,op⟩&&(!(gZ 2).seq_||inB sq 1 2000)&&(!(gZ 2).ref_||inB rf 1 2000)&&nH ⟨0,2,0,sq,rf,n,cd,nm,ky,d,op⟩))=(iY (jA 2) ⟨0,2,0,sq,rf,n,cd,nm,ky,d,op⟩&&nM ⟨0,2,0,sq,rf,n,cd,nm,ky,d,op⟩):=by
 unfold kE iY gZ jA nH nM
 simp only [Int.reduceEq,bC,bP,bS,aZ,dW,cV,bQ,cD,cR,cY,cL,dG,bE,cH]
 grind
theorem aT6 {sq rf n cd:Int}{nm ky:List UInt8}{d:aF}{op:bV} (hz:dX d=true→hD d iH=decide (d.Kind=0)):(dX d&&(kE (gZ 3) ⟨0,3,0,sq,rf,n,cd,nm,ky,d,op⟩&&(!(gZ 3).seq_||inB sq 1 2000)&&(!(gZ 3).ref_||inB rf 1 2000)&&nH ⟨0,3,0,sq,rf,n,cd,nm,ky,d,op⟩))=(iY (jA 3) ⟨0,3,0,sq,rf,n,cd,nm,ky,d,op⟩&&nM ⟨0,3,0,sq,rf,n,cd,nm,ky,d,op⟩):=by
 unfold kE iY gZ jA nH nM
 simp only [Int.reduceEq,bC,bP,bS,aZ,dW,cV,bQ,cD,cR,cY,cL,dG,bE,cH]
 grind
theorem aT7 {sq rf n cd:Int}{nm ky:List UInt8}{d:aF}{op:bV} (hz:dX d=true→hD d iH=decide (d.Kind=0)):(dX d&&(kE (gZ 4) ⟨0,4,0,sq,rf,n,cd,nm,ky,d,op⟩&&(!(gZ 4).seq_||inB sq 1 2000)&&(!(gZ 4).ref_||inB rf 1 2000)&&nH ⟨0,4,0,sq,rf,n,cd,nm,ky,d,op⟩))=(iY (jA 4) ⟨0,4,0,sq,rf,n,cd,nm,ky,d,op⟩&&nM ⟨0,4,0,sq,rf,n,cd,nm,ky,d,op⟩):=by
 unfold kE iY gZ jA nH nM
 simp only [Int.reduceEq,bC,bP,bS,aZ,dW,cV,bQ,cD,cR,cY,cL,dG,bE,cH]
 grind
theorem aT8 {sq rf n cd:Int}{nm ky:List UInt8}{d:aF}{op:bV} (hz:dX d=true→hD d iH=decide (d.Kind=0)):(dX d&&(kE (gZ 5) ⟨0,5,0,sq,rf,n,cd,nm,ky,d,op⟩&&(!(gZ 5).seq_||inB sq 1 2000)&&(!(gZ 5).ref_||inB rf 1 2000)&&nH ⟨0,5,0,sq,rf,n,cd,nm,ky,d,op⟩))=(iY (jA 5) ⟨0,5,0,sq,rf,n,cd,nm,ky,d,op⟩&&nM ⟨0,5,0,sq,rf,n,cd,nm,ky,d,op⟩):=by
 unfold kE iY gZ jA nH nM
 simp only [Int.reduceEq,bC,bP,bS,aZ,dW,cV,bQ,cD,cR,cY,cL,dG,bE,cH]
 grind
theorem aT9 {sq rf n cd:Int}{nm ky:List UInt8}{d:aF}{op:bV} (hz:dX d=true→hD d iH=decide (d.Kind=0)):(dX d&&(kE (gZ 6) ⟨0,6,0,sq,rf,n,cd,nm,ky,d,op⟩&&(!(gZ 6).seq_||inB sq 1 2000)&&(!(gZ 6).ref_||inB rf 1 2000)&&nH ⟨0,6,0,sq,rf,n,cd,nm,ky,d,op⟩))=(iY (jA 6) ⟨0,6,0,sq,rf,n,cd,nm,ky,d,op⟩&&nM ⟨0,6,0,sq,rf,n,cd,nm,ky,d,op⟩):=by
 unfold kE iY gZ jA nH nM
 simp only [Int.reduceEq,bC,bP,bS,aZ,dW,cV,bQ,cD,cR,cY,cL,dG,bE,cH]
 grind
theorem aUa {sq rf n cd:Int}{nm ky:List UInt8}{d:aF}{op:bV} (hz:dX d=true→hD d iH=decide (d.Kind=0)):yI ⟨0,7,0,sq,rf,n,cd,nm,ky,d,op⟩ 1=(iY (jA 7) ⟨0,7,0,sq,rf,n,cd,nm,ky,d,op⟩&&jP ⟨1,sq,nm,ky,n,d,op⟩):=by
 unfold yI
 simp only
 cases hC:jP ⟨1,sq,nm,ky,n,d,op⟩
 ·
  simp
 ·
  unfold jP at hC
  simp only [jN,yD,Int.reduceEq,bQ,cD,aY,dJ,bE,cH,cY,cV,mP,cB] at hC
  unfold iY jA
  simp only [Int.reduceEq,bC,bP,bS,aZ,dW,cV,bQ,cD,cR,cY,cL,dG,lI,lH,nO,nA]
  grind
theorem aUb {sq rf n cd:Int}{nm ky:List UInt8}{d:aF}{op:bV} (hz:dX d=true→hD d iH=decide (d.Kind=0)):(dX d&&(kE (gZ 8) ⟨0,8,0,sq,rf,n,cd,nm,ky,d,op⟩&&(!(gZ 8).seq_||inB sq 1 2000)&&(!(gZ 8).ref_||inB rf 1 2000)&&nH ⟨0,8,0,sq,rf,n,cd,nm,ky,d,op⟩))=(iY (jA 8) ⟨0,8,0,sq,rf,n,cd,nm,ky,d,op⟩&&nM ⟨0,8,0,sq,rf,n,cd,nm,ky,d,op⟩):=by
 unfold kE iY gZ jA nH nM
 simp only [Int.reduceEq,bC,bP,bS,aZ,dW,cV,bQ,cD,cR,cY,cL,dG,bE,cH]
 grind
theorem aUc {sq rf n cd:Int}{nm ky:List UInt8}{d:aF}{op:bV} (hz:dX d=true→hD d iH=decide (d.Kind=0)):(dX d&&(kE (gZ 9) ⟨0,9,0,sq,rf,n,cd,nm,ky,d,op⟩&&(!(gZ 9).seq_||inB sq 1 2000)&&(!(gZ 9).ref_||inB rf 1 2000)&&nH ⟨0,9,0,sq,rf,n,cd,nm,ky,d,op⟩))=(iY (jA 9) ⟨0,9,0,sq,rf,n,cd,nm,ky,d,op⟩&&nM ⟨0,9,0,sq,rf,n,cd,nm,ky,d,op⟩):=by
 unfold kE iY gZ jA nH nM
 simp only [Int.reduceEq,bC,bP,bS,aZ,dW,cV,bQ,cD,cR,cY,cL,dG,bE,cH]
 grind
theorem aSc {sq rf n cd:Int}{nm ky:List UInt8}{d:aF}{op:bV} (hz:dX d=true→hD d iH=decide (d.Kind=0)):(dX d&&(kE (gZ 10) ⟨0,10,0,sq,rf,n,cd,nm,ky,d,op⟩&&(!(gZ 10).seq_||inB sq 1 2000)&&(!(gZ 10).ref_||inB rf 1 2000)&&nH ⟨0,10,0,sq,rf,n,cd,nm,ky,d,op⟩))=(iY (jA 10) ⟨0,10,0,sq,rf,n,cd,nm,ky,d,op⟩&&nM ⟨0,10,0,sq,rf,n,cd,nm,ky,d,op⟩):=by
 unfold kE iY gZ jA nH nM
 simp only [Int.reduceEq,bC,bP,bS,aZ,dW,cV,bQ,cD,cR,cY,cL,dG,bE,cH]
 grind
theorem aSd {sq rf n cd:Int}{nm ky:List UInt8}{d:aF}{op:bV} (hz:dX d=true→hD d iH=decide (d.Kind=0)):(dX d&&(kE (gZ 11) ⟨0,11,0,sq,rf,n,cd,nm,ky,d,op⟩&&(!(gZ 11).seq_||inB sq 1 2000)&&(!(gZ 11).ref_||inB rf 1 2000)&&nH ⟨0,11,0,sq,rf,n,cd,nm,ky,d,op⟩))=(iY (jA 11) ⟨0,11,0,sq,rf,n,cd,nm,ky,d,op⟩&&nM ⟨0,11,0,sq,rf,n,cd,nm,ky,d,op⟩):=by
 unfold kE iY gZ jA nH nM
 simp only [Int.reduceEq,bC,bP,bS,aZ,dW,cV,bQ,cD,cR,cY,cL,dG,bE,cH]
 grind
theorem aSe {sq rf n cd:Int}{nm ky:List UInt8}{d:aF}{op:bV} (hz:dX d=true→hD d iH=decide (d.Kind=0)):yI ⟨0,12,0,sq,rf,n,cd,nm,ky,d,op⟩ 2=(iY (jA 12) ⟨0,12,0,sq,rf,n,cd,nm,ky,d,op⟩&&jP ⟨2,sq,nm,ky,n,d,op⟩):=by
 unfold yI
 simp only
 cases hC:jP ⟨2,sq,nm,ky,n,d,op⟩
 ·
  simp
 ·
  unfold jP at hC
  simp only [jN,yD,Int.reduceEq,bQ,cD,aY,dJ,bE,cH,cY,cV,mP,cB] at hC
  unfold iY jA
  simp only [Int.reduceEq,bC,bP,bS,aZ,dW,cV,bQ,cD,cR,cY,cL,dG,lI,lH,nO,nA]
  grind
theorem aSf {sq rf n cd:Int}{nm ky:List UInt8}{d:aF}{op:bV} (hz:dX d=true→hD d iH=decide (d.Kind=0)):(dX d&&(kE (gZ 13) ⟨0,13,0,sq,rf,n,cd,nm,ky,d,op⟩&&(!(gZ 13).seq_||inB sq 1 2000)&&(!(gZ 13).ref_||inB rf 1 2000)&&nH ⟨0,13,0,sq,rf,n,cd,nm,ky,d,op⟩))=(iY (jA 13) ⟨0,13,0,sq,rf,n,cd,nm,ky,d,op⟩&&nM ⟨0,13,0,sq,rf,n,cd,nm,ky,d,op⟩):=by
 unfold kE iY gZ jA nH nM
 simp only [Int.reduceEq,bC,bP,bS,aZ,dW,cV,bQ,cD,cR,cY,cL,dG,bE,cH]
 grind
theorem aSg {sq rf n cd:Int}{nm ky:List UInt8}{d:aF}{op:bV} (hz:dX d=true→hD d iH=decide (d.Kind=0)):yI ⟨0,14,0,sq,rf,n,cd,nm,ky,d,op⟩ 3=(iY (jA 14) ⟨0,14,0,sq,rf,n,cd,nm,ky,d,op⟩&&jP ⟨3,sq,nm,ky,n,d,op⟩):=by
 unfold yI
 simp only
 cases hC:jP ⟨3,sq,nm,ky,n,d,op⟩
 ·
  simp
 ·
  unfold jP at hC
  simp only [jN,yD,Int.reduceEq,bQ,cD,aY,dJ,bE,cH,cY,cV,mP,cB] at hC
  unfold iY jA
  simp only [Int.reduceEq,bC,bP,bS,aZ,dW,cV,bQ,cD,cR,cY,cL,dG,lI,lH,nO,nA]
  grind
theorem aSh {sq rf n cd:Int}{nm ky:List UInt8}{d:aF}{op:bV} (hz:dX d=true→hD d iH=decide (d.Kind=0)):(dX d&&(kE (gZ 15) ⟨0,15,0,sq,rf,n,cd,nm,ky,d,op⟩&&(!(gZ 15).seq_||inB sq 1 2000)&&(!(gZ 15).ref_||inB rf 1 2000)&&nH ⟨0,15,0,sq,rf,n,cd,nm,ky,d,op⟩))=(iY (jA 15) ⟨0,15,0,sq,rf,n,cd,nm,ky,d,op⟩&&nM ⟨0,15,0,sq,rf,n,cd,nm,ky,d,op⟩):=by
 unfold kE iY gZ jA nH nM
 simp only [Int.reduceEq,bC,bP,bS,aZ,dW,cV,bQ,cD,cR,cY,cL,dG,bE,cH]
 grind
theorem aSi {sq rf n cd:Int}{nm ky:List UInt8}{d:aF}{op:bV} (hz:dX d=true→hD d iH=decide (d.Kind=0)):yI ⟨0,16,0,sq,rf,n,cd,nm,ky,d,op⟩ 4=(iY (jA 16) ⟨0,16,0,sq,rf,n,cd,nm,ky,d,op⟩&&jP ⟨4,sq,nm,ky,n,d,op⟩):=by
 unfold yI
 simp only
 cases hC:jP ⟨4,sq,nm,ky,n,d,op⟩
 ·
  simp
 ·
  unfold jP at hC
  simp only [jN,yD,Int.reduceEq,bQ,cD,aY,dJ,bE,cH,cY,cV,mP,cB] at hC
  unfold iY jA
  simp only [Int.reduceEq,bC,bP,bS,aZ,dW,cV,bQ,cD,cR,cY,cL,dG,lI,lH,nO,nA]
  grind
theorem aSj {sq rf n cd:Int}{nm ky:List UInt8}{d:aF}{op:bV} (hz:dX d=true→hD d iH=decide (d.Kind=0)):(dX d&&(kE (gZ 17) ⟨0,17,0,sq,rf,n,cd,nm,ky,d,op⟩&&(!(gZ 17).seq_||inB sq 1 2000)&&(!(gZ 17).ref_||inB rf 1 2000)&&nH ⟨0,17,0,sq,rf,n,cd,nm,ky,d,op⟩))=(iY (jA 17) ⟨0,17,0,sq,rf,n,cd,nm,ky,d,op⟩&&nM ⟨0,17,0,sq,rf,n,cd,nm,ky,d,op⟩):=by
 unfold kE iY gZ jA nH nM
 simp only [Int.reduceEq,bC,bP,bS,aZ,dW,cV,bQ,cD,cR,cY,cL,dG,bE,cH]
 grind
theorem aSk {sq rf n cd:Int}{nm ky:List UInt8}{d:aF}{op:bV} (hz:dX d=true→hD d iH=decide (d.Kind=0)):yI ⟨0,18,0,sq,rf,n,cd,nm,ky,d,op⟩ 7=(iY (jA 18) ⟨0,18,0,sq,rf,n,cd,nm,ky,d,op⟩&&jP ⟨7,sq,nm,ky,n,d,op⟩):=by
 unfold yI
 simp only
 cases hC:jP ⟨7,sq,nm,ky,n,d,op⟩
 ·
  simp
 ·
  unfold jP at hC
  simp only [jN,yD,Int.reduceEq,bQ,cD,aY,dJ,bE,cH,cY,cV,mP,cB] at hC
  unfold iY jA
  simp only [Int.reduceEq,bC,bP,bS,aZ,dW,cV,bQ,cD,cR,cY,cL,dG,lI,lH,nO,nA]
  grind
theorem aSl {sq rf n cd:Int}{nm ky:List UInt8}{d:aF}{op:bV} (hz:dX d=true→hD d iH=decide (d.Kind=0)):yI ⟨0,19,0,sq,rf,n,cd,nm,ky,d,op⟩ 5=(iY (jA 19) ⟨0,19,0,sq,rf,n,cd,nm,ky,d,op⟩&&jP ⟨5,sq,nm,ky,n,d,op⟩):=by
 unfold yI
 simp only
 cases hC:jP ⟨5,sq,nm,ky,n,d,op⟩
 ·
  simp
 ·
  unfold jP at hC
  simp only [jN,yD,Int.reduceEq,bQ,cD,aY,dJ,bE,cH,cY,cV,mP,cB] at hC
  unfold iY jA
  simp only [Int.reduceEq,bC,bP,bS,aZ,dW,cV,bQ,cD,cR,cY,cL,dG,lI,lH,nO,nA]
  grind
theorem aSm {sq rf n cd:Int}{nm ky:List UInt8}{d:aF}{op:bV} (hz:dX d=true→hD d iH=decide (d.Kind=0)):(dX d&&(kE (gZ 20) ⟨0,20,0,sq,rf,n,cd,nm,ky,d,op⟩&&(!(gZ 20).seq_||inB sq 1 2000)&&(!(gZ 20).ref_||inB rf 1 2000)&&nH ⟨0,20,0,sq,rf,n,cd,nm,ky,d,op⟩))=(iY (jA 20) ⟨0,20,0,sq,rf,n,cd,nm,ky,d,op⟩&&nM ⟨0,20,0,sq,rf,n,cd,nm,ky,d,op⟩):=by
 unfold kE iY gZ jA nH nM
 simp only [Int.reduceEq,bC,bP,bS,aZ,dW,cV,bQ,cD,cR,cY,cL,dG,bE,cH]
 grind
theorem aSn {sq rf n cd:Int}{nm ky:List UInt8}{d:aF}{op:bV} (hz:dX d=true→hD d iH=decide (d.Kind=0)):(dX d&&(kE (gZ 21) ⟨0,21,0,sq,rf,n,cd,nm,ky,d,op⟩&&(!(gZ 21).seq_||inB sq 1 2000)&&(!(gZ 21).ref_||inB rf 1 2000)&&nH ⟨0,21,0,sq,rf,n,cd,nm,ky,d,op⟩))=(iY (jA 21) ⟨0,21,0,sq,rf,n,cd,nm,ky,d,op⟩&&nM ⟨0,21,0,sq,rf,n,cd,nm,ky,d,op⟩):=by
 unfold kE iY gZ jA nH nM
 simp only [Int.reduceEq,bC,bP,bS,aZ,dW,cV,bQ,cD,cR,cY,cL,dG,bE,cH]
 grind
theorem aSo {sq rf n cd:Int}{nm ky:List UInt8}{d:aF}{op:bV} (hz:dX d=true→hD d iH=decide (d.Kind=0)):(dX d&&(kE (gZ 22) ⟨0,22,0,sq,rf,n,cd,nm,ky,d,op⟩&&(!(gZ 22).seq_||inB sq 1 2000)&&(!(gZ 22).ref_||inB rf 1 2000)&&nH ⟨0,22,0,sq,rf,n,cd,nm,ky,d,op⟩))=(iY (jA 22) ⟨0,22,0,sq,rf,n,cd,nm,ky,d,op⟩&&nM ⟨0,22,0,sq,rf,n,cd,nm,ky,d,op⟩):=by
 unfold kE iY gZ jA nH nM
 simp only [Int.reduceEq,bC,bP,bS,aZ,dW,cV,bQ,cD,cR,cY,cL,dG,bE,cH]
 grind
theorem aSp {sq rf n cd:Int}{nm ky:List UInt8}{d:aF}{op:bV} (hz:dX d=true→hD d iH=decide (d.Kind=0)):yI ⟨0,23,0,sq,rf,n,cd,nm,ky,d,op⟩ 6=(iY (jA 23) ⟨0,23,0,sq,rf,n,cd,nm,ky,d,op⟩&&jP ⟨6,sq,nm,ky,n,d,op⟩):=by
 unfold yI
 simp only
 cases hC:jP ⟨6,sq,nm,ky,n,d,op⟩
 ·
  simp
 ·
  unfold jP at hC
  simp only [jN,yD,Int.reduceEq,bQ,cD,aY,dJ,bE,cH,cY,cV,mP,cB] at hC
  unfold iY jA
  simp only [Int.reduceEq,bC,bP,bS,aZ,dW,cV,bQ,cD,cR,cY,cL,dG,lI,lH,nO,nA]
  grind
theorem aSq {sq rf n cd:Int}{nm ky:List UInt8}{d:aF}{op:bV} (hz:dX d=true→hD d iH=decide (d.Kind=0)):(dX d&&(kE (gZ 24) ⟨0,24,0,sq,rf,n,cd,nm,ky,d,op⟩&&(!(gZ 24).seq_||inB sq 1 2000)&&(!(gZ 24).ref_||inB rf 1 2000)&&nH ⟨0,24,0,sq,rf,n,cd,nm,ky,d,op⟩))=(iY (jA 24) ⟨0,24,0,sq,rf,n,cd,nm,ky,d,op⟩&&nM ⟨0,24,0,sq,rf,n,cd,nm,ky,d,op⟩):=by
 unfold kE iY gZ jA nH nM
 simp only [Int.reduceEq,bC,bP,bS,aZ,dW,cV,bQ,cD,cR,cY,cL,dG,bE,cH]
 grind
theorem aSr {sq rf n cd:Int}{nm ky:List UInt8}{d:aF}{op:bV} (hz:dX d=true→hD d iH=decide (d.Kind=0)):(dX d&&(kE (gZ 25) ⟨0,25,0,sq,rf,n,cd,nm,ky,d,op⟩&&(!(gZ 25).seq_||inB sq 1 2000)&&(!(gZ 25).ref_||inB rf 1 2000)&&nH ⟨0,25,0,sq,rf,n,cd,nm,ky,d,op⟩))=(iY (jA 25) ⟨0,25,0,sq,rf,n,cd,nm,ky,d,op⟩&&nM ⟨0,25,0,sq,rf,n,cd,nm,ky,d,op⟩):=by
 unfold kE iY gZ jA nH nM
 simp only [Int.reduceEq,bC,bP,bS,aZ,dW,cV,bQ,cD,cR,cY,cL,dG,bE,cH]
 grind
theorem aSs {sq rf n cd:Int}{nm ky:List UInt8}{d:aF}{op:bV} (hz:dX d=true→hD d iH=decide (d.Kind=0)):(dX d&&(kE (gZ 26) ⟨0,26,0,sq,rf,n,cd,nm,ky,d,op⟩&&(!(gZ 26).seq_||inB sq 1 2000)&&(!(gZ 26).ref_||inB rf 1 2000)&&nH ⟨0,26,0,sq,rf,n,cd,nm,ky,d,op⟩))=(iY (jA 26) ⟨0,26,0,sq,rf,n,cd,nm,ky,d,op⟩&&nM ⟨0,26,0,sq,rf,n,cd,nm,ky,d,op⟩):=by
 unfold kE iY gZ jA nH nM
 simp only [Int.reduceEq,bC,bP,bS,aZ,dW,cV,bQ,cD,cR,cY,cL,dG,bE,cH]
 grind
theorem aSt {sq rf n cd:Int}{nm ky:List UInt8}{d:aF}{op:bV} (hz:dX d=true→hD d iH=decide (d.Kind=0)):yI ⟨0,27,0,sq,rf,n,cd,nm,ky,d,op⟩ 8=(iY (jA 27) ⟨0,27,0,sq,rf,n,cd,nm,ky,d,op⟩&&jP ⟨8,sq,nm,ky,n,d,op⟩):=by
 unfold yI
 simp only
 cases hC:jP ⟨8,sq,nm,ky,n,d,op⟩
 ·
  simp
 ·
  unfold jP at hC
  simp only [jN,yD,Int.reduceEq,bQ,cD,aY,dJ,bE,cH,cY,cV,mP,cB] at hC
  unfold iY jA
  simp only [Int.reduceEq,bC,bP,bS,aZ,dW,cV,bQ,cD,cR,cY,cL,dG,lI,lH,nO,nA]
  grind
theorem aSu {sq rf n cd:Int}{nm ky:List UInt8}{d:aF}{op:bV} (hz:dX d=true→hD d iH=decide (d.Kind=0)):yI ⟨0,28,0,sq,rf,n,cd,nm,ky,d,op⟩ 9=(iY (jA 28) ⟨0,28,0,sq,rf,n,cd,nm,ky,d,op⟩&&jP ⟨9,sq,nm,ky,n,d,op⟩):=by
 unfold yI
 simp only
 cases hC:jP ⟨9,sq,nm,ky,n,d,op⟩
 ·
  simp
 ·
  unfold jP at hC
  simp only [jN,yD,Int.reduceEq,bQ,cD,aY,dJ,bE,cH,cY,cV,mP,cB] at hC
  unfold iY jA
  simp only [Int.reduceEq,bC,bP,bS,aZ,dW,cV,bQ,cD,cR,cY,cL,dG,lI,lH,nO,nA]
  grind
theorem aSv {sq rf n cd:Int}{nm ky:List UInt8}{d:aF}{op:bV} (hz:dX d=true→hD d iH=decide (d.Kind=0)):yI ⟨0,29,0,sq,rf,n,cd,nm,ky,d,op⟩ 10=(iY (jA 29) ⟨0,29,0,sq,rf,n,cd,nm,ky,d,op⟩&&jP ⟨10,sq,nm,ky,n,d,op⟩):=by
 unfold yI
 simp only
 cases hC:jP ⟨10,sq,nm,ky,n,d,op⟩
 ·
  simp
 ·
  unfold jP at hC
  simp only [jN,yD,Int.reduceEq,bQ,cD,aY,dJ,bE,cH,cY,cV,mP,cB] at hC
  unfold iY jA
  simp only [Int.reduceEq,bC,bP,bS,aZ,dW,cV,bQ,cD,cR,cY,cL,dG,lI,lH,nO,nA]
  grind
theorem aSw {sq rf n cd:Int}{nm ky:List UInt8}{d:aF}{op:bV} (hz:dX d=true→hD d iH=decide (d.Kind=0)):yI ⟨0,30,0,sq,rf,n,cd,nm,ky,d,op⟩ 11=(iY (jA 30) ⟨0,30,0,sq,rf,n,cd,nm,ky,d,op⟩&&jP ⟨11,sq,nm,ky,n,d,op⟩):=by
 unfold yI
 simp only
 cases hC:jP ⟨11,sq,nm,ky,n,d,op⟩
 ·
  simp
 ·
  unfold jP at hC
  simp only [jN,yD,Int.reduceEq,bQ,cD,aY,dJ,bE,cH,cY,cV,mP,cB] at hC
  unfold iY jA
  simp only [Int.reduceEq,bC,bP,bS,aZ,dW,cV,bQ,cD,cR,cY,cL,dG,lI,lH,nO,nA]
  grind
theorem aSx {sq rf n cd:Int}{nm ky:List UInt8}{d:aF}{op:bV} (hz:dX d=true→hD d iH=decide (d.Kind=0)):yI ⟨0,31,0,sq,rf,n,cd,nm,ky,d,op⟩ 12=(iY (jA 31) ⟨0,31,0,sq,rf,n,cd,nm,ky,d,op⟩&&jP ⟨12,sq,nm,ky,n,d,op⟩):=by
 unfold yI
 simp only
 cases hC:jP ⟨12,sq,nm,ky,n,d,op⟩
 ·
  simp
 ·
  unfold jP at hC
  simp only [jN,yD,Int.reduceEq,bQ,cD,aY,dJ,bE,cH,cY,cV,mP,cB] at hC
  unfold iY jA
  simp only [Int.reduceEq,bC,bP,bS,aZ,dW,cV,bQ,cD,cR,cY,cL,dG,lI,lH,nO,nA]
  grind
theorem aSy {sq rf n cd:Int}{nm ky:List UInt8}{d:aF}{op:bV} (hz:dX d=true→hD d iH=decide (d.Kind=0)):yI ⟨0,32,0,sq,rf,n,cd,nm,ky,d,op⟩ 13=(iY (jA 32) ⟨0,32,0,sq,rf,n,cd,nm,ky,d,op⟩&&jP ⟨13,sq,nm,ky,n,d,op⟩):=by
 unfold yI
 simp only
 cases hC:jP ⟨13,sq,nm,ky,n,d,op⟩
 ·
  simp
 ·
  unfold jP at hC
  simp only [jN,yD,Int.reduceEq,bQ,cD,aY,dJ,bE,cH,cY,cV,mP,cB] at hC
  unfold iY jA
  simp only [Int.reduceEq,bC,bP,bS,aZ,dW,cV,bQ,cD,cR,cY,cL,dG,lI,lH,nO,nA]
  grind
theorem aSz {sq rf n cd:Int}{nm ky:List UInt8}{d:aF}{op:bV} (hz:dX d=true→hD d iH=decide (d.Kind=0)):(dX d&&(kE (gZ 33) ⟨0,33,0,sq,rf,n,cd,nm,ky,d,op⟩&&(!(gZ 33).seq_||inB sq 1 2000)&&(!(gZ 33).ref_||inB rf 1 2000)&&nH ⟨0,33,0,sq,rf,n,cd,nm,ky,d,op⟩))=(iY (jA 33) ⟨0,33,0,sq,rf,n,cd,nm,ky,d,op⟩&&nM ⟨0,33,0,sq,rf,n,cd,nm,ky,d,op⟩):=by
 unfold kE iY gZ jA nH nM
 simp only [Int.reduceEq,bC,bP,bS,aZ,dW,cV,bQ,cD,cR,cY,cL,dG,bE,cH]
 grind
theorem aSA {sq rf n cd:Int}{nm ky:List UInt8}{d:aF}{op:bV} (hz:dX d=true→hD d iH=decide (d.Kind=0)):(dX d&&(kE (gZ 34) ⟨0,34,0,sq,rf,n,cd,nm,ky,d,op⟩&&(!(gZ 34).seq_||inB sq 1 2000)&&(!(gZ 34).ref_||inB rf 1 2000)&&nH ⟨0,34,0,sq,rf,n,cd,nm,ky,d,op⟩))=(iY (jA 34) ⟨0,34,0,sq,rf,n,cd,nm,ky,d,op⟩&&nM ⟨0,34,0,sq,rf,n,cd,nm,ky,d,op⟩):=by
 unfold kE iY gZ jA nH nM
 simp only [Int.reduceEq,bC,bP,bS,aZ,dW,cV,bQ,cD,cR,cY,cL,dG,bE,cH]
 grind
theorem aSB {sq rf n cd:Int}{nm ky:List UInt8}{d:aF}{op:bV} (hz:dX d=true→hD d iH=decide (d.Kind=0)):yI ⟨0,35,0,sq,rf,n,cd,nm,ky,d,op⟩ 14=(iY (jA 35) ⟨0,35,0,sq,rf,n,cd,nm,ky,d,op⟩&&jP ⟨14,sq,nm,ky,n,d,op⟩):=by
 unfold yI
 simp only
 cases hC:jP ⟨14,sq,nm,ky,n,d,op⟩
 ·
  simp
 ·
  unfold jP at hC
  simp only [jN,yD,Int.reduceEq,bQ,cD,aY,dJ,bE,cH,cY,cV,mP,cB] at hC
  unfold iY jA
  simp only [Int.reduceEq,bC,bP,bS,aZ,dW,cV,bQ,cD,cR,cY,cL,dG,lI,lH,nO,nA]
  grind
theorem wR {u:gQ}{e:bW} (h:dX e.Data=false):iY u e=false:=by unfold iY;simp [h]
noncomputable def jI (e:bW):Bool:=dX e.Data&&(if gH e.Kind=0 then kE (gZ e.Kind) e&&(!(gZ e.Kind).seq_||inB e.Seq 1 2000)&&(!(gZ e.Kind).ref_||inB e.Ref 1 2000)&&nH e else yI e (gH e.Kind))
noncomputable def jJ (e:bW):Bool:=iY (jA e.Kind) e&&(if gH e.Kind=0 then nM e else jP ⟨gH e.Kind,e.Seq,e.Name,e.Key,e.N,e.Data,e.Opts⟩)
theorem aWr {id t sq rf n cd:Int}{nm ky:List UInt8}{d:aF}{op:bV} (hz:dX d=true→hD d iH=decide (d.Kind=0)):jI ⟨id,1,t,sq,rf,n,cd,nm,ky,d,op⟩=jJ ⟨id,1,t,sq,rf,n,cd,nm,ky,d,op⟩:=by
 unfold jI jJ
 simp only
 rw [aT (show gH 1=0 from rfl),aT (show gH 1=0 from rfl)]
 exact aT4 (sq:=sq) (rf:=rf) (n:=n) (cd:=cd) (nm:=nm) (ky:=ky) (op:=op) hz
theorem aWs {id t sq rf n cd:Int}{nm ky:List UInt8}{d:aF}{op:bV} (hz:dX d=true→hD d iH=decide (d.Kind=0)):jI ⟨id,2,t,sq,rf,n,cd,nm,ky,d,op⟩=jJ ⟨id,2,t,sq,rf,n,cd,nm,ky,d,op⟩:=by
 unfold jI jJ
 simp only
 rw [aT (show gH 2=0 from rfl),aT (show gH 2=0 from rfl)]
 exact aT5 (sq:=sq) (rf:=rf) (n:=n) (cd:=cd) (nm:=nm) (ky:=ky) (op:=op) hz
theorem aWt {id t sq rf n cd:Int}{nm ky:List UInt8}{d:aF}{op:bV} (hz:dX d=true→hD d iH=decide (d.Kind=0)):jI ⟨id,3,t,sq,rf,n,cd,nm,ky,d,op⟩=jJ ⟨id,3,t,sq,rf,n,cd,nm,ky,d,op⟩:=by
 unfold jI jJ
 simp only
 rw [aT (show gH 3=0 from rfl),aT (show gH 3=0 from rfl)]
 exact aT6 (sq:=sq) (rf:=rf) (n:=n) (cd:=cd) (nm:=nm) (ky:=ky) (op:=op) hz
theorem aWu {id t sq rf n cd:Int}{nm ky:List UInt8}{d:aF}{op:bV} (hz:dX d=true→hD d iH=decide (d.Kind=0)):jI ⟨id,4,t,sq,rf,n,cd,nm,ky,d,op⟩=jJ ⟨id,4,t,sq,rf,n,cd,nm,ky,d,op⟩:=by
 unfold jI jJ
 simp only
 rw [aT (show gH 4=0 from rfl),aT (show gH 4=0 from rfl)]
 exact aT7 (sq:=sq) (rf:=rf) (n:=n) (cd:=cd) (nm:=nm) (ky:=ky) (op:=op) hz
theorem aWv {id t sq rf n cd:Int}{nm ky:List UInt8}{d:aF}{op:bV} (hz:dX d=true→hD d iH=decide (d.Kind=0)):jI ⟨id,5,t,sq,rf,n,cd,nm,ky,d,op⟩=jJ ⟨id,5,t,sq,rf,n,cd,nm,ky,d,op⟩:=by
 unfold jI jJ
 simp only
 rw [aT (show gH 5=0 from rfl),aT (show gH 5=0 from rfl)]
 exact aT8 (sq:=sq) (rf:=rf) (n:=n) (cd:=cd) (nm:=nm) (ky:=ky) (op:=op) hz
theorem aWw {id t sq rf n cd:Int}{nm ky:List UInt8}{d:aF}{op:bV} (hz:dX d=true→hD d iH=decide (d.Kind=0)):jI ⟨id,6,t,sq,rf,n,cd,nm,ky,d,op⟩=jJ ⟨id,6,t,sq,rf,n,cd,nm,ky,d,op⟩:=by
 unfold jI jJ
 simp only
 rw [aT (show gH 6=0 from rfl),aT (show gH 6=0 from rfl)]
 exact aT9 (sq:=sq) (rf:=rf) (n:=n) (cd:=cd) (nm:=nm) (ky:=ky) (op:=op) hz
theorem aWx {id t sq rf n cd:Int}{nm ky:List UInt8}{d:aF}{op:bV} (hz:dX d=true→hD d iH=decide (d.Kind=0)):jI ⟨id,7,t,sq,rf,n,cd,nm,ky,d,op⟩=jJ ⟨id,7,t,sq,rf,n,cd,nm,ky,d,op⟩:=by
 unfold jI jJ
 simp only
 rw [aQ (show ¬gH 7=0 by decide),aQ (show ¬gH 7=0 by decide),show gH 7=1 from rfl]
 have h:=aUa (sq:=sq) (rf:=rf) (n:=n) (cd:=cd) (nm:=nm) (ky:=ky) (op:=op) hz
 cases hv:dX d
 ·
  rw [wR hv];rfl
 ·
  exact h
theorem aWy {id t sq rf n cd:Int}{nm ky:List UInt8}{d:aF}{op:bV} (hz:dX d=true→hD d iH=decide (d.Kind=0)):jI ⟨id,8,t,sq,rf,n,cd,nm,ky,d,op⟩=jJ ⟨id,8,t,sq,rf,n,cd,nm,ky,d,op⟩:=by
 unfold jI jJ
 simp only
 rw [aT (show gH 8=0 from rfl),aT (show gH 8=0 from rfl)]
 exact aUb (sq:=sq) (rf:=rf) (n:=n) (cd:=cd) (nm:=nm) (ky:=ky) (op:=op) hz
theorem aWz {id t sq rf n cd:Int}{nm ky:List UInt8}{d:aF}{op:bV} (hz:dX d=true→hD d iH=decide (d.Kind=0)):jI ⟨id,9,t,sq,rf,n,cd,nm,ky,d,op⟩=jJ ⟨id,9,t,sq,rf,n,cd,nm,ky,d,op⟩:=by
 unfold jI jJ
 simp only
 rw [aT (show gH 9=0 from rfl),aT (show gH 9=0 from rfl)]
 exact aUc (sq:=sq) (rf:=rf) (n:=n) (cd:=cd) (nm:=nm) (ky:=ky) (op:=op) hz
theorem aU9 {id t sq rf n cd:Int}{nm ky:List UInt8}{d:aF}{op:bV} (hz:dX d=true→hD d iH=decide (d.Kind=0)):jI ⟨id,10,t,sq,rf,n,cd,nm,ky,d,op⟩=jJ ⟨id,10,t,sq,rf,n,cd,nm,ky,d,op⟩:=by
 unfold jI jJ
 simp only
 rw [aT (show gH 10=0 from rfl),aT (show gH 10=0 from rfl)]
 exact aSc (sq:=sq) (rf:=rf) (n:=n) (cd:=cd) (nm:=nm) (ky:=ky) (op:=op) hz
theorem aVa {id t sq rf n cd:Int}{nm ky:List UInt8}{d:aF}{op:bV} (hz:dX d=true→hD d iH=decide (d.Kind=0)):jI ⟨id,11,t,sq,rf,n,cd,nm,ky,d,op⟩=jJ ⟨id,11,t,sq,rf,n,cd,nm,ky,d,op⟩:=by
 unfold jI jJ
 simp only
 rw [aT (show gH 11=0 from rfl),aT (show gH 11=0 from rfl)]
 exact aSd (sq:=sq) (rf:=rf) (n:=n) (cd:=cd) (nm:=nm) (ky:=ky) (op:=op) hz
theorem aVb {id t sq rf n cd:Int}{nm ky:List UInt8}{d:aF}{op:bV} (hz:dX d=true→hD d iH=decide (d.Kind=0)):jI ⟨id,12,t,sq,rf,n,cd,nm,ky,d,op⟩=jJ ⟨id,12,t,sq,rf,n,cd,nm,ky,d,op⟩:=by
 unfold jI jJ
 simp only
 rw [aQ (show ¬gH 12=0 by decide),aQ (show ¬gH 12=0 by decide),show gH 12=2 from rfl]
 have h:=aSe (sq:=sq) (rf:=rf) (n:=n) (cd:=cd) (nm:=nm) (ky:=ky) (op:=op) hz
 cases hv:dX d
 ·
  rw [wR hv];rfl
 ·
  exact h
theorem aVc {id t sq rf n cd:Int}{nm ky:List UInt8}{d:aF}{op:bV} (hz:dX d=true→hD d iH=decide (d.Kind=0)):jI ⟨id,13,t,sq,rf,n,cd,nm,ky,d,op⟩=jJ ⟨id,13,t,sq,rf,n,cd,nm,ky,d,op⟩:=by
 unfold jI jJ
 simp only
 rw [aT (show gH 13=0 from rfl),aT (show gH 13=0 from rfl)]
 exact aSf (sq:=sq) (rf:=rf) (n:=n) (cd:=cd) (nm:=nm) (ky:=ky) (op:=op) hz
theorem aVd {id t sq rf n cd:Int}{nm ky:List UInt8}{d:aF}{op:bV} (hz:dX d=true→hD d iH=decide (d.Kind=0)):jI ⟨id,14,t,sq,rf,n,cd,nm,ky,d,op⟩=jJ ⟨id,14,t,sq,rf,n,cd,nm,ky,d,op⟩:=by
 unfold jI jJ
 simp only
 rw [aQ (show ¬gH 14=0 by decide),aQ (show ¬gH 14=0 by decide),show gH 14=3 from rfl]
 have h:=aSg (sq:=sq) (rf:=rf) (n:=n) (cd:=cd) (nm:=nm) (ky:=ky) (op:=op) hz
 cases hv:dX d
 ·
  rw [wR hv];rfl
 ·
  exact h
theorem aVe {id t sq rf n cd:Int}{nm ky:List UInt8}{d:aF}{op:bV} (hz:dX d=true→hD d iH=decide (d.Kind=0)):jI ⟨id,15,t,sq,rf,n,cd,nm,ky,d,op⟩=jJ ⟨id,15,t,sq,rf,n,cd,nm,ky,d,op⟩:=by
 unfold jI jJ
 simp only
 rw [aT (show gH 15=0 from rfl),aT (show gH 15=0 from rfl)]
 exact aSh (sq:=sq) (rf:=rf) (n:=n) (cd:=cd) (nm:=nm) (ky:=ky) (op:=op) hz
theorem aVf {id t sq rf n cd:Int}{nm ky:List UInt8}{d:aF}{op:bV} (hz:dX d=true→hD d iH=decide (d.Kind=0)):jI ⟨id,16,t,sq,rf,n,cd,nm,ky,d,op⟩=jJ ⟨id,16,t,sq,rf,n,cd,nm,ky,d,op⟩:=by
 unfold jI jJ
 simp only
 rw [aQ (show ¬gH 16=0 by decide),aQ (show ¬gH 16=0 by decide),show gH 16=4 from rfl]
 have h:=aSi (sq:=sq) (rf:=rf) (n:=n) (cd:=cd) (nm:=nm) (ky:=ky) (op:=op) hz
 cases hv:dX d
 ·
  rw [wR hv];rfl
 ·
  exact h
theorem aVg {id t sq rf n cd:Int}{nm ky:List UInt8}{d:aF}{op:bV} (hz:dX d=true→hD d iH=decide (d.Kind=0)):jI ⟨id,17,t,sq,rf,n,cd,nm,ky,d,op⟩=jJ ⟨id,17,t,sq,rf,n,cd,nm,ky,d,op⟩:=by
 unfold jI jJ
 simp only
 rw [aT (show gH 17=0 from rfl),aT (show gH 17=0 from rfl)]
 exact aSj (sq:=sq) (rf:=rf) (n:=n) (cd:=cd) (nm:=nm) (ky:=ky) (op:=op) hz
theorem aVh {id t sq rf n cd:Int}{nm ky:List UInt8}{d:aF}{op:bV} (hz:dX d=true→hD d iH=decide (d.Kind=0)):jI ⟨id,18,t,sq,rf,n,cd,nm,ky,d,op⟩=jJ ⟨id,18,t,sq,rf,n,cd,nm,ky,d,op⟩:=by
 unfold jI jJ
 simp only
 rw [aQ (show ¬gH 18=0 by decide),aQ (show ¬gH 18=0 by decide),show gH 18=7 from rfl]
 have h:=aSk (sq:=sq) (rf:=rf) (n:=n) (cd:=cd) (nm:=nm) (ky:=ky) (op:=op) hz
 cases hv:dX d
 ·
  rw [wR hv];rfl
 ·
  exact h
theorem aVi {id t sq rf n cd:Int}{nm ky:List UInt8}{d:aF}{op:bV} (hz:dX d=true→hD d iH=decide (d.Kind=0)):jI ⟨id,19,t,sq,rf,n,cd,nm,ky,d,op⟩=jJ ⟨id,19,t,sq,rf,n,cd,nm,ky,d,op⟩:=by
 unfold jI jJ
 simp only
 rw [aQ (show ¬gH 19=0 by decide),aQ (show ¬gH 19=0 by decide),show gH 19=5 from rfl]
 have h:=aSl (sq:=sq) (rf:=rf) (n:=n) (cd:=cd) (nm:=nm) (ky:=ky) (op:=op) hz
 cases hv:dX d
 ·
  rw [wR hv];rfl
 ·
  exact h
theorem aVj {id t sq rf n cd:Int}{nm ky:List UInt8}{d:aF}{op:bV} (hz:dX d=true→hD d iH=decide (d.Kind=0)):jI ⟨id,20,t,sq,rf,n,cd,nm,ky,d,op⟩=jJ ⟨id,20,t,sq,rf,n,cd,nm,ky,d,op⟩:=by
 unfold jI jJ
 simp only
 rw [aT (show gH 20=0 from rfl),aT (show gH 20=0 from rfl)]
 exact aSm (sq:=sq) (rf:=rf) (n:=n) (cd:=cd) (nm:=nm) (ky:=ky) (op:=op) hz
theorem aVk {id t sq rf n cd:Int}{nm ky:List UInt8}{d:aF}{op:bV} (hz:dX d=true→hD d iH=decide (d.Kind=0)):jI ⟨id,21,t,sq,rf,n,cd,nm,ky,d,op⟩=jJ ⟨id,21,t,sq,rf,n,cd,nm,ky,d,op⟩:=by
 unfold jI jJ
 simp only
 rw [aT (show gH 21=0 from rfl),aT (show gH 21=0 from rfl)]
 exact aSn (sq:=sq) (rf:=rf) (n:=n) (cd:=cd) (nm:=nm) (ky:=ky) (op:=op) hz
theorem aVl {id t sq rf n cd:Int}{nm ky:List UInt8}{d:aF}{op:bV} (hz:dX d=true→hD d iH=decide (d.Kind=0)):jI ⟨id,22,t,sq,rf,n,cd,nm,ky,d,op⟩=jJ ⟨id,22,t,sq,rf,n,cd,nm,ky,d,op⟩:=by
 unfold jI jJ
 simp only
 rw [aT (show gH 22=0 from rfl),aT (show gH 22=0 from rfl)]
 exact aSo (sq:=sq) (rf:=rf) (n:=n) (cd:=cd) (nm:=nm) (ky:=ky) (op:=op) hz
theorem aVm {id t sq rf n cd:Int}{nm ky:List UInt8}{d:aF}{op:bV} (hz:dX d=true→hD d iH=decide (d.Kind=0)):jI ⟨id,23,t,sq,rf,n,cd,nm,ky,d,op⟩=jJ ⟨id,23,t,sq,rf,n,cd,nm,ky,d,op⟩:=by
 unfold jI jJ
 simp only
 rw [aQ (show ¬gH 23=0 by decide),aQ (show ¬gH 23=0 by decide),show gH 23=6 from rfl]
 have h:=aSp (sq:=sq) (rf:=rf) (n:=n) (cd:=cd) (nm:=nm) (ky:=ky) (op:=op) hz
 cases hv:dX d
 ·
  rw [wR hv];rfl
 ·
  exact h
theorem aVn {id t sq rf n cd:Int}{nm ky:List UInt8}{d:aF}{op:bV} (hz:dX d=true→hD d iH=decide (d.Kind=0)):jI ⟨id,24,t,sq,rf,n,cd,nm,ky,d,op⟩=jJ ⟨id,24,t,sq,rf,n,cd,nm,ky,d,op⟩:=by
 unfold jI jJ
 simp only
 rw [aT (show gH 24=0 from rfl),aT (show gH 24=0 from rfl)]
 exact aSq (sq:=sq) (rf:=rf) (n:=n) (cd:=cd) (nm:=nm) (ky:=ky) (op:=op) hz
theorem aVo {id t sq rf n cd:Int}{nm ky:List UInt8}{d:aF}{op:bV} (hz:dX d=true→hD d iH=decide (d.Kind=0)):jI ⟨id,25,t,sq,rf,n,cd,nm,ky,d,op⟩=jJ ⟨id,25,t,sq,rf,n,cd,nm,ky,d,op⟩:=by
 unfold jI jJ
 simp only
 rw [aT (show gH 25=0 from rfl),aT (show gH 25=0 from rfl)]
 exact aSr (sq:=sq) (rf:=rf) (n:=n) (cd:=cd) (nm:=nm) (ky:=ky) (op:=op) hz
theorem aVp {id t sq rf n cd:Int}{nm ky:List UInt8}{d:aF}{op:bV} (hz:dX d=true→hD d iH=decide (d.Kind=0)):jI ⟨id,26,t,sq,rf,n,cd,nm,ky,d,op⟩=jJ ⟨id,26,t,sq,rf,n,cd,nm,ky,d,op⟩:=by
 unfold jI jJ
 simp only
 rw [aT (show gH 26=0 from rfl),aT (show gH 26=0 from rfl)]
 exact aSs (sq:=sq) (rf:=rf) (n:=n) (cd:=cd) (nm:=nm) (ky:=ky) (op:=op) hz
theorem aVq {id t sq rf n cd:Int}{nm ky:List UInt8}{d:aF}{op:bV} (hz:dX d=true→hD d iH=decide (d.Kind=0)):jI ⟨id,27,t,sq,rf,n,cd,nm,ky,d,op⟩=jJ ⟨id,27,t,sq,rf,n,cd,nm,ky,d,op⟩:=by
 unfold jI jJ
 simp only
 rw [aQ (show ¬gH 27=0 by decide),aQ (show ¬gH 27=0 by decide),show gH 27=8 from rfl]
 have h:=aSt (sq:=sq) (rf:=rf) (n:=n) (cd:=cd) (nm:=nm) (ky:=ky) (op:=op) hz
 cases hv:dX d
 ·
  rw [wR hv];rfl
 ·
  exact h
theorem aVr {id t sq rf n cd:Int}{nm ky:List UInt8}{d:aF}{op:bV} (hz:dX d=true→hD d iH=decide (d.Kind=0)):jI ⟨id,28,t,sq,rf,n,cd,nm,ky,d,op⟩=jJ ⟨id,28,t,sq,rf,n,cd,nm,ky,d,op⟩:=by
 unfold jI jJ
 simp only
 rw [aQ (show ¬gH 28=0 by decide),aQ (show ¬gH 28=0 by decide),show gH 28=9 from rfl]
 have h:=aSu (sq:=sq) (rf:=rf) (n:=n) (cd:=cd) (nm:=nm) (ky:=ky) (op:=op) hz
 cases hv:dX d
 ·
  rw [wR hv];rfl
 ·
  exact h
theorem aVs {id t sq rf n cd:Int}{nm ky:List UInt8}{d:aF}{op:bV} (hz:dX d=true→hD d iH=decide (d.Kind=0)):jI ⟨id,29,t,sq,rf,n,cd,nm,ky,d,op⟩=jJ ⟨id,29,t,sq,rf,n,cd,nm,ky,d,op⟩:=by
 unfold jI jJ
 simp only
 rw [aQ (show ¬gH 29=0 by decide),aQ (show ¬gH 29=0 by decide),show gH 29=10 from rfl]
 have h:=aSv (sq:=sq) (rf:=rf) (n:=n) (cd:=cd) (nm:=nm) (ky:=ky) (op:=op) hz
 cases hv:dX d
 ·
  rw [wR hv];rfl
 ·
  exact h
theorem aVt {id t sq rf n cd:Int}{nm ky:List UInt8}{d:aF}{op:bV} (hz:dX d=true→hD d iH=decide (d.Kind=0)):jI ⟨id,30,t,sq,rf,n,cd,nm,ky,d,op⟩=jJ ⟨id,30,t,sq,rf,n,cd,nm,ky,d,op⟩:=by
 unfold jI jJ
 simp only
 rw [aQ (show ¬gH 30=0 by decide),aQ (show ¬gH 30=0 by decide),show gH 30=11 from rfl]
 have h:=aSw (sq:=sq) (rf:=rf) (n:=n) (cd:=cd) (nm:=nm) (ky:=ky) (op:=op) hz
 cases hv:dX d
 ·
  rw [wR hv];rfl
 ·
  exact h
theorem aVu {id t sq rf n cd:Int}{nm ky:List UInt8}{d:aF}{op:bV} (hz:dX d=true→hD d iH=decide (d.Kind=0)):jI ⟨id,31,t,sq,rf,n,cd,nm,ky,d,op⟩=jJ ⟨id,31,t,sq,rf,n,cd,nm,ky,d,op⟩:=by
 unfold jI jJ
 simp only
 rw [aQ (show ¬gH 31=0 by decide),aQ (show ¬gH 31=0 by decide),show gH 31=12 from rfl]
 have h:=aSx (sq:=sq) (rf:=rf) (n:=n) (cd:=cd) (nm:=nm) (ky:=ky) (op:=op) hz
 cases hv:dX d
 ·
  rw [wR hv];rfl
 ·
  exact h
theorem aVv {id t sq rf n cd:Int}{nm ky:List UInt8}{d:aF}{op:bV} (hz:dX d=true→hD d iH=decide (d.Kind=0)):jI ⟨id,32,t,sq,rf,n,cd,nm,ky,d,op⟩=jJ ⟨id,32,t,sq,rf,n,cd,nm,ky,d,op⟩:=by
 unfold jI jJ
 simp only
 rw [aQ (show ¬gH 32=0 by decide),aQ (show ¬gH 32=0 by decide),show gH 32=13 from rfl]
 have h:=aSy (sq:=sq) (rf:=rf) (n:=n) (cd:=cd) (nm:=nm) (ky:=ky) (op:=op) hz
 cases hv:dX d
 ·
  rw [wR hv];rfl
 ·
  exact h
theorem aVw {id t sq rf n cd:Int}{nm ky:List UInt8}{d:aF}{op:bV} (hz:dX d=true→hD d iH=decide (d.Kind=0)):jI ⟨id,33,t,sq,rf,n,cd,nm,ky,d,op⟩=jJ ⟨id,33,t,sq,rf,n,cd,nm,ky,d,op⟩:=by
 unfold jI jJ
 simp only
 rw [aT (show gH 33=0 from rfl),aT (show gH 33=0 from rfl)]
 exact aSz (sq:=sq) (rf:=rf) (n:=n) (cd:=cd) (nm:=nm) (ky:=ky) (op:=op) hz
theorem aVx {id t sq rf n cd:Int}{nm ky:List UInt8}{d:aF}{op:bV} (hz:dX d=true→hD d iH=decide (d.Kind=0)):jI ⟨id,34,t,sq,rf,n,cd,nm,ky,d,op⟩=jJ ⟨id,34,t,sq,rf,n,cd,nm,ky,d,op⟩:=by
 unfold jI jJ
 simp only
 rw [aT (show gH 34=0 from rfl),aT (show gH 34=0 from rfl)]
 exact aSA (sq:=sq) (rf:=rf) (n:=n) (cd:=cd) (nm:=nm) (ky:=ky) (op:=op) hz
theorem aVy {id t sq rf n cd:Int}{nm ky:List UInt8}{d:aF}{op:bV} (hz:dX d=true→hD d iH=decide (d.Kind=0)):jI ⟨id,35,t,sq,rf,n,cd,nm,ky,d,op⟩=jJ ⟨id,35,t,sq,rf,n,cd,nm,ky,d,op⟩:=by
 unfold jI jJ
 simp only
 rw [aQ (show ¬gH 35=0 by decide),aQ (show ¬gH 35=0 by decide),show gH 35=14 from rfl]
 have h:=aSB (sq:=sq) (rf:=rf) (n:=n) (cd:=cd) (nm:=nm) (ky:=ky) (op:=op) hz
 cases hv:dX d
 ·
  rw [wR hv];rfl
 ·
  exact h
theorem aP1 (e:bW):rM e=aJg e:=by
 have hz:=@aOP e.Data
 have e1:rM e=(inB e.Kind 1 35&&inB e.ID 0 2000&&inB e.Time 0 1099511627776&&jI e):=by unfold rM jI;simp only [Bool.and_assoc]
 have e2:aJg e=(inB e.Kind 1 35&&inB e.ID 0 2000&&inB e.Time 0 1099511627776&&jJ e):=by unfold aJg jJ;simp only [Bool.and_assoc]
 rw [e1,e2]
 cases hk:inB e.Kind 1 35
 ·
  simp
 have hk2:1≤e.Kind∧e.Kind≤35:=by unfold inB at hk;simpa using hk
 have h:jI e=jJ e:=by
  clear e1 e2 hk
  obtain ⟨id,kind,time,sq,rf,n,cd,nm,ky,d,op⟩:=e
  simp only at *
  have h:kind=1∨kind=2∨kind=3∨kind=4∨kind=5∨kind=6∨kind=7∨kind=8∨kind=9∨kind=10∨kind=11∨kind=12∨kind=13∨kind=14∨kind=15∨kind=16∨kind=17∨kind=18∨kind=19∨kind=20∨kind=21∨kind=22∨kind=23∨kind=24∨kind=25∨kind=26∨kind=27∨kind=28∨kind=29∨kind=30∨kind=31∨kind=32∨kind=33∨kind=34∨kind=35:=by omega
  rcases h with rfl | rfl | rfl | rfl | rfl | rfl | rfl | rfl | rfl | rfl | rfl | rfl | rfl | rfl | rfl | rfl | rfl | rfl | rfl | rfl | rfl | rfl | rfl | rfl | rfl | rfl | rfl | rfl | rfl | rfl | rfl | rfl | rfl | rfl | rfl
  ·
   exact aWr hz
  ·
   exact aWs hz
  ·
   exact aWt hz
  ·
   exact aWu hz
  ·
   exact aWv hz
  ·
   exact aWw hz
  ·
   exact aWx hz
  ·
   exact aWy hz
  ·
   exact aWz hz
  ·
   exact aU9 hz
  ·
   exact aVa hz
  ·
   exact aVb hz
  ·
   exact aVc hz
  ·
   exact aVd hz
  ·
   exact aVe hz
  ·
   exact aVf hz
  ·
   exact aVg hz
  ·
   exact aVh hz
  ·
   exact aVi hz
  ·
   exact aVj hz
  ·
   exact aVk hz
  ·
   exact aVl hz
  ·
   exact aVm hz
  ·
   exact aVn hz
  ·
   exact aVo hz
  ·
   exact aVp hz
  ·
   exact aVq hz
  ·
   exact aVr hz
  ·
   exact aVs hz
  ·
   exact aVt hz
  ·
   exact aVu hz
  ·
   exact aVv hz
  ·
   exact aVw hz
  ·
   exact aVx hz
  ·
   exact aVy hz
 rw [h]
def zE:bW:=bW.mk (0:Int) (0:Int) (0:Int) (0:Int) (0:Int) (0:Int) (0:Int) ([]:List UInt8) ([]:List UInt8) zV zP
theorem aTR:gN zE:=⟨by simp [zE,tN],by simp [zE,tN],by simp [zE,tN],by simp [zE,tN],by simp [zE,tN],by simp [zE,tN],by simp [zE,tN],by simp [zE,okS],by simp [zE,okS],aMM,aTS⟩
theorem aGi {e:bW} (h:gN e):zQ e=some (rM e):=by rw [aJV h,aP1]
theorem aBQ {l:List Int}{i:Nat}{w w':aV}{x:Int} (hi:i<7) (hl:l.length=i) (h:iL (-9223372036854775808) 9223372036854775807 w=some (x,w')):rC (l,(i:Int),w)=some (.next (l++[x],((i+1:Nat):Int),w')):=by
 unfold rC
 rw [dF,aT (by simp only;omega),h,aA,oQ (by simp only [dY,gB];omega),aA,pW (n:=7) hi (by omega)]
theorem aSL {l:List Int}{w:aV}:rC (l,((7:Nat):Int),w)=some (.out (l,w)):=by
 unfold rC
 rw [dF,aQ (by simp only;omega)]
theorem aMu {e:Int}{r:aM}{w:aV} (h:lT e r w):∃ x e' r' w',mN r=some (x,r')∧yA w=some (x,w')∧lT e' r' w'∧gN x∧(e≠0→e'=e)∧(e'≠0→x=zE)∧(e'=0→rM x=true):=by
 obtain ⟨x1,e1,r1,w1,a1,b1,h1,k1,n1,-⟩:=aBW (-9223372036854775808) 9223372036854775807 h
 obtain ⟨x2,e2,r2,w2,a2,b2,h2,k2,n2,-⟩:=aBW (-9223372036854775808) 9223372036854775807 h1
 obtain ⟨x3,e3,r3,w3,a3,b3,h3,k3,n3,-⟩:=aBW (-9223372036854775808) 9223372036854775807 h2
 obtain ⟨x4,e4,r4,w4,a4,b4,h4,k4,n4,-⟩:=aBW (-9223372036854775808) 9223372036854775807 h3
 obtain ⟨x5,e5,r5,w5,a5,b5,h5,k5,n5,-⟩:=aBW (-9223372036854775808) 9223372036854775807 h4
 obtain ⟨x6,e6,r6,w6,a6,b6,h6,k6,n6,-⟩:=aBW (-9223372036854775808) 9223372036854775807 h5
 obtain ⟨x7,e7,r7,w7,a7,b7,h7,k7,n7,-⟩:=aBW (-9223372036854775808) 9223372036854775807 h6
 obtain ⟨t1,e8,r8,w8,a8,b8,h8,k8,n8,-⟩:=aF8 4096 h7
 obtain ⟨t2,e9,r9,w9,a9,b9,h9,k9,n9,-⟩:=aF8 4096 h8
 obtain ⟨v,e10,r10,w10,a10,b10,h10,k10,n10⟩:=aRo h9
 obtain ⟨o,e11,r11,w11,a11,b11,h11,k11,n11⟩:=aP8 h10
 have hx:gN (bW.mk x1 x2 x3 x4 x5 x6 x7 t1 t2 v o):=⟨k1,k2,k3,k4,k5,k6,k7,by unfold okS;simp only;omega,by unfold okS;simp only;omega,k10,k11⟩
 have hl:fI rC (([]:List Int),(0:Int),w)=some ([x1,x2,x3,x4,x5,x6,x7],w7):=by
  exact (jU (aBQ (l:=[]) (i:=0) (by omega) rfl b1)).trans<|(jU (aBQ (l:=[x1]) (i:=1) (by omega) rfl b2)).trans<|(jU (aBQ (l:=[x1,x2]) (i:=2) (by omega) rfl b3)).trans<|(jU (aBQ (l:=[x1,x2,x3]) (i:=3) (by omega) rfl b4)).trans<|(jU (aBQ (l:=[x1,x2,x3,x4]) (i:=4) (by omega) rfl b5)).trans<|(jU (aBQ (l:=[x1,x2,x3,x4,x5]) (i:=5) (by omega) rfl b6)).trans<|(jU (aBQ (l:=[x1,x2,x3,x4,x5,x6]) (i:=6) (by omega) rfl b7)).trans<|xG aSL
 have hne:e≠0→e11=e:=fun he=>by
  have c1:=(n1 he).2
  have c2:=(n2 (by omega)).2
  have c3:=(n3 (by omega)).2
  have c4:=(n4 (by omega)).2
  have c5:=(n5 (by omega)).2
  have c6:=(n6 (by omega)).2
  have c7:=(n7 (by omega)).2
  have c8:=(n8 (by omega)).2
  have c9:=(n9 (by omega)).2
  have c10:=n10 (by omega)
  have c11:=n11 (by omega)
  omega
 unfold mN yA
 rw [a1,aA,a2,aA,a3,aA,a4,aA,a5,aA,a6,aA,a7,aA,a8,aA,a9,aA,a10,aA,a11,aA,hl,aA]
 have i0:lO [x1,x2,x3,x4,x5,x6,x7] (0:Int)=some x1:=rfl
 have i1:lO [x1,x2,x3,x4,x5,x6,x7] (1:Int)=some x2:=rfl
 have i2:lO [x1,x2,x3,x4,x5,x6,x7] (2:Int)=some x3:=rfl
 have i3:lO [x1,x2,x3,x4,x5,x6,x7] (3:Int)=some x4:=rfl
 have i4:lO [x1,x2,x3,x4,x5,x6,x7] (4:Int)=some x5:=rfl
 have i5:lO [x1,x2,x3,x4,x5,x6,x7] (5:Int)=some x6:=rfl
 have i6:lO [x1,x2,x3,x4,x5,x6,x7] (6:Int)=some x7:=rfl
 rw [i0,aA,i1,aA,i2,aA,i3,aA,i4,aA,i5,aA,i6,aA,b8,aA,b9,aA,b10,aA,b11,aA]
 obtain ⟨f1,f2⟩:=sM h11
 by_cases h0:e11=0
 ·
  subst h0
  rcases Bool.eq_false_or_eq_true (rM (bW.mk x1 x2 x3 x4 x5 x6 x7 t1 t2 v o)) with hr | hr
  ·
   refine ⟨_,0,r11,w11,?_,?_,h11,hx,fun he=>absurd (hne he).symm he,fun he=>absurd rfl he,fun _=>hr⟩
   ·
    rw [f1,aA,xE hx,hr]
    simp [gd,f1]
   ·
    rw [f2,aA,aGi hx,hr]
    simp [gd,f2]
  ·
   obtain ⟨r',w',g1,g2,g3⟩:=aLk 11 h11
   obtain ⟨f3,f4⟩:=sM g3
   refine ⟨zE,11,r',w',?_,?_,g3,aTR,fun he=>absurd (hne he).symm he,fun _=>rfl,fun he=>absurd he (by decide)⟩
   ·
    rw [f1,aA,xE hx,hr]
    simp [gd,g1,f3]
    rfl
   ·
    rw [f2,aA,aGi hx,hr]
    simp [gd,g2,f4]
    rfl
 ·
  refine ⟨zE,e11,r11,w11,?_,?_,h11,aTR,hne,fun _=>rfl,fun he=>absurd he h0⟩
  ·
   rw [f1,aA,kA h0]
   simp [gd,f1,h0]
   rfl
  ·
   rw [f2,aA,kA h0]
   simp [gd,f2,h0]
   rfl
def qT (n:Int):List UInt8:=tT (zz n)
def uZ (s:List UInt8):List UInt8:=tT (zz s.length)++s
theorem vZ {n:Int} (h:tN n):(qT n).length≤10:=aCb (aHw h.1 h.2)
theorem aBE {n:Nat} (h:n≤9223372036854775807):(qT (n:Int)).length≤10:=vZ ⟨by omega,by omega⟩
theorem yU {s:List UInt8} (h:s.length≤9223372036854775807):(uZ s).length≤10+s.length:=by
 have:=aBE h
 unfold qT at this
 simp only [uZ,aW];omega
theorem aDB (s:List UInt8):s.length≤(uZ s).length:=by simp [uZ]
theorem aFv {b:List UInt8}{n:Int} (hb:b.length≤10000000000000) (h:tN n):kN b n=some (b++qT n):=aEG hb h.1 h.2
theorem aQl {b s:List UInt8} (hb:b.length≤10000000000000) (hs:s.length≤10000000000000):pB b s=some (b++uZ s):=by rw [aHT hb hs,uZ,dD]
theorem aAi {α:Type} (B:Nat) (l:List α) (f:α→List UInt8) (b:List UInt8) (hB:(b++l.flatMap f).length≤B) {body:List UInt8 × Int→Option (dN (List UInt8 × Int) (List UInt8))}
  (h:∀ (s:List UInt8) (i:Nat) (hi:i<l.length),(s++f l[i]).length≤B→body (s,(i:Int))=some (.next (s++f l[i],((i+1:Nat):Int)))) (hout:∀ s,body (s,(l.length:Int))=some (.out s)) :
  fI body (b,(0:Int))=some (b++l.flatMap f):=by
 refine aDl (fun s=>∃ i:Nat,s.2=(i:Int)∧i≤l.length∧s.1=b++(l.take i).flatMap f) (fun s=>l.length - s.2.toNat) (fun _=>b++l.flatMap f) ?_ _ ⟨0,rfl,by omega,by simp⟩
 rintro ⟨s,i0⟩ ⟨i,hi0,hi,hs⟩
 simp only at hi0 hs
 subst hi0 hs
 by_cases hlt:i<l.length
 ·
  have e:b++(l.take i).flatMap f++f l[i]=b++(l.take (i+1)).flatMap f:=by rw [eN hlt,kU];simp
  have hle:(b++(l.take i).flatMap f++f l[i]).length≤B:=by
   rw [e]
   refine mH ?_ hB
   conv=>rhs;rw [← jM (i+1) l,kU]
   simp only [aW];omega
  refine .inl ⟨_,h _ i hlt hle,⟨i+1,rfl,hlt,e⟩,by simp;omega,rfl⟩
 ·
  obtain rfl:i=l.length:=by omega
  rw [hout,kO]
  exact .inr rfl
mutual
def sQ:aF→List UInt8
 | ⟨k,i,t,l,ks⟩=>qT k++(if k=1∨k=2∨k=6 then qT i else if k=3 then uZ t else if k=4 then qT l.length++aNl l else if k=5 then qT l.length++aKT l ks else [])
def aNl:List aF→List UInt8
 | []=>[]
 | x :: l=>sQ x++aNl l
def aKT:List aF→List (List UInt8)→List UInt8
 | x :: l,k :: ks=>uZ k++sQ x++aKT l ks
 | _,_=>[]
end
theorem aNm:∀ l,aNl l=l.flatMap sQ
 | []=>by simp [aNl]
 | x :: l=>by simp [aNl,aNm l]
theorem aNn:∀ l ks,aKT l ks=(l.zip ks).flatMap fun p=>uZ p.2++sQ p.1
 | [],_=>by simp [aKT]
 | x :: l,[]=>by simp [aKT]
 | x :: l,k :: ks=>by simp [aKT,aNn l ks]
theorem aIf (v:aF):sQ v=qT v.Kind++(if v.Kind=1∨v.Kind=2∨v.Kind=6 then qT v.Int else if v.Kind=3 then uZ v.Text else if v.Kind=4 then qT v.Items.length++v.Items.flatMap sQ
 else if v.Kind=5 then qT v.Items.length++(v.Items.zip v.Keys).flatMap (fun p=>uZ p.2++sQ p.1) else []):=by cases v;simp only [sQ,aNm,aNn]
mutual
def nsz:aF→Nat
 | ⟨_,_,_,l,_⟩=>tA l+1
def tA:List aF→Nat
 | []=>0
 | x :: l=>nsz x+tA l
end
theorem aIS (v:aF):nsz v=tA v.Items+1:=by cases v;simp [nsz]
theorem aPc:∀ l,l.length≤tA l
 | []=>by simp
 | x :: l=>by have:=aPc l;have:=aIS x;simp only [tA,dY];omega
theorem aIA {o:Bool}{v:aF} (h:fmd o v=true):(v.Kind≠4→v.Kind≠5→v.Items=[])∧(v.Kind=5→v.Keys.length=v.Items.length)∧∀ x∈v.Items,fmd o x=true:=by
 rw [aFs,aY,cI] at h
 refine ⟨fun h4 h5=>?_,fun h5=>?_,h.2⟩
 ·
  have hf:=h.1
  unfold aDe at hf
  by_cases h0:v.Kind=0
  ·
   simp [h0] at hf;simp [hf]
  ·
   by_cases h1:v.Kind=1
   ·
    simp [h1] at hf;simp [hf]
   ·
    by_cases h2:v.Kind=2
    ·
     simp [h2] at hf;simp [hf]
    ·
     by_cases h6:v.Kind=6
     ·
      simp [h6] at hf;simp [hf]
     ·
      by_cases h3:v.Kind=3
      ·
       simp [h3] at hf;simp [hf]
      ·
       simp [h0,h1,h2,h6,h3,h4,h5] at hf
 ·
  have hf:=h.1
  unfold aDe at hf
  simp [h5] at hf
  exact hf.1.2
def At (r:aM) (rest:List UInt8):Prop:=∃ (b:List UInt8) (a:Nat),b.length≤1000000000∧a≤b.length∧r=⟨b,a,0,true⟩∧b.drop a=rest
theorem uP {r:aM}{l:List UInt8} (h:At r l):gP r=some 0:=by
 obtain ⟨b,a,_,_,rfl,_⟩:=h
 rfl
theorem aOU {b:List UInt8} (h:b.length≤1000000000):∃ r,yC b=some r∧At r b:=⟨_,aGF (by omega),b,0,h,by omega,rfl,rfl⟩
theorem aAc {r:aM}{n low high:Int}{rest:List UInt8} (h:At r (qT n++rest)) (hn:tN n) (h1:low≤n) (h2:n≤high):∃ r',eC low high r=some (n,r')∧At r' rest:=by
 obtain ⟨b,a,hb,ha,rfl,hd⟩:=h
 have hr:=aKI (low:=low) (high:=high) rest hn.1 hn.2
 rw [aQ (by omega)] at hr
 have hlen:(qT n).length≤b.length - a:=by
  have:=oK List.length hd
  simp only [gK,aW] at this
  omega
 refine ⟨_,by rw [aFt ha hb,hd];unfold qT;rw [hr],b,a+(qT n).length,hb,by omega,?_,?_⟩
 ·
  unfold aA7
  rw [hd];unfold qT;rw [hr];rfl
 ·
  rw [← kG,hd,List.drop_left]
theorem aEJ {r:aM}{s:List UInt8}{most:Int}{rest:List UInt8} (h:At r (uZ s++rest)) (hs:(s.length:Int)≤most):∃ r',hG most r=some (s,r')∧At r' rest:=by
 obtain ⟨b,a,hb,ha,rfl,hd⟩:=h
 have hl:=oK List.length hd
 simp only [gK,aW,uZ] at hl
 have hr:=aKI (low:=0) (high:=most) (s++rest) (n:=(s.length:Int)) (by omega) (by omega)
 rw [aQ (by omega)] at hr
 have hd':b.drop a=tT (zz s.length)++(s++rest):=by rw [hd,uZ,dD]
 have hd2:b.drop (a+(tT (zz s.length)).length)=s++rest:=by rw [← kG,hd',List.drop_left]
 refine ⟨⟨b,(a+(tT (zz s.length)).length+s.length:Nat),0,true⟩,?_,b,a+(tT (zz s.length)).length+s.length,hb,by omega,rfl,?_⟩
 ·
  rw [aId ha hb]
  unfold aI2
  rw [hd',hr]
  simp only [ne_eq,not_true_eq_false,cD]
  rw [aQ (by omega),hd2]
  simp
 ·
  rw [← kG,hd2,List.drop_left]
theorem aQn {l:List (List UInt8)} (h:l.length≤9223372036854775807) (hr:aHH l=true) (i:Nat) (hi:i+1<l.length):Op.bytesLess l[i] l[i+1]=true:=aJe.1 hr i hi
theorem aSY:∀ (n:Nat) (v:aF),hgt v≤n→hgt v≤nsz v:=by
 intro n
 induction n with
 | zero=>intro v h;have:=nQ v;omega
 | succ n ih =>
  intro v h
  have hh:=nQ v
  rw [hh,aIS]
  have key:∀ l:List aF,(∀ x∈l,hgt x≤nsz x)→aGS l≤tA l:=by
   intro l
   induction l with
   | nil=>simp [aGS,tA]
   | cons x l ihl =>
    intro hl
    have h1:=hl x (by simp)
    have h2:=ihl (fun y hy=>hl y (by simp [hy]))
    simp only [aGS,tA];omega
  have:=key v.Items (fun x hx=>ih x (by have:=qC hx;omega))
  omega
theorem aMJ:∀ {l:List aF}{x:aF},x∈l→nsz x≤tA l
 | [],x,h=>by simp at h
 | y :: l,x,h=>by
  simp only [tA]
  rcases eQ.1 h with rfl | h
  ·
   omega
  ·
   have:=aMJ h;omega
theorem aO0:∀ (n:Nat) (v:aF),hgt v≤n→nsz v≤1000000→dep v=(hgt v:Int)∧siz v=(nsz v:Int):=by
 intro n
 induction n with
 | zero=>intro v h;have:=nQ v;omega
 | succ n ih =>
  intro v h hn
  have hh:=nQ v
  have hz:=aIS v
  have hm:=aSY _ v (fB _)
  have k1:∀ (l:List aF) (a:Nat),(∀ x∈l,dep x=(hgt x:Int))→l.foldl (fun a x=>if dep x > a then dep x else a) (a:Int)=((max a (aGS l):Nat):Int):=by
   intro l
   induction l with
   | nil=>intro a _;simp [aGS]
   | cons x l ihl =>
    intro a hl
    have h1:=hl x (by simp)
    simp only [oH,h1]
    have e:(if ((hgt x:Nat):Int) > ((a:Nat):Int) then ((hgt x:Nat):Int) else ((a:Nat):Int))=((max a (hgt x):Nat):Int):=by split <;> omega
    rw [e,ihl _ (fun y hy=>hl y (by simp [hy]))]
    simp only [aGS]
    omega
  have k2:∀ (l:List aF) (a:Nat),(∀ x∈l,siz x=(nsz x:Int))→a+tA l≤2000000→l.foldl (fun a x=>IntKind.i64.wrap (a+siz x)) (a:Int)=((a+tA l:Nat):Int):=by
   intro l
   induction l with
   | nil=>intro a _ _;simp [tA]
   | cons x l ihl =>
    intro a hl ha
    simp only [tA] at ha
    have h1:=hl x (by simp)
    simp only [oH,h1]
    rw [w64 (by omega) (by omega),show ((a:Nat):Int)+(nsz x:Int)=((a+nsz x:Nat):Int) by omega,ihl _ (fun y hy=>hl y (by simp [hy])) (by omega)]
    simp only [tA]
    omega
  have hi:∀ x∈v.Items,dep x=(hgt x:Int)∧siz x=(nsz x:Int):=fun x hx=>ih x (by have:=qC hx;omega) (by have:=aMJ hx;omega)
  constructor
  ·
   rw [aNZ]
   have:=k1 v.Items 0 (fun x hx=>(hi x hx).1)
   simp only [rF] at this
   rw [this,w64 (by omega) (by omega)]
   omega
  ·
   rw [aOA]
   have:=k2 v.Items 1 (fun x hx=>(hi x hx).2) (by omega)
   rw [show (1:Int)=((1:Nat):Int) from rfl,this]
   omega
theorem aIT {r:aM}{l:List UInt8} (k:Int) (h:At r l):jY true k r=some (true,r):=by
 unfold jY
 rw [uP h]
 simp [uP h]
theorem aEQ {α:Type} (f:α→List UInt8) (l:List α) (i:Nat) (hi:i<l.length):(l.drop i).flatMap f=f l[i]++(l.drop (i+1)).flatMap f:=by
 rw [oE hi,iW]
theorem aGV:∀ (l:List aF) (i:Nat) (hi:i<l.length),tA (l.take (i+1))=tA (l.take i)+nsz l[i]
 | [],i,hi=>by simp at hi
 | x :: l,0,hi=>by simp [tA]
 | x :: l,i+1,hi=>by
  have:=aGV l i (by simpa using hi)
  simp only [kV,tA,List.getElem_cons_succ] at this ⊢
  omega
theorem aDm:∀ (l:List aF) (i:Nat),tA (l.take i)≤tA l
 | [],i=>by simp
 | x :: l,0=>by simp [tA]
 | x :: l,i+1=>by have:=aDm l i;simp only [kV,tA];omega
theorem aOJ:∀ (n:Nat) (v:aF) (d:Int) (k:Nat) (r:aM) (rest:List UInt8),At r (sQ v++rest)→dS v→fmd false v=true→shr v=true→0≤d→(hgt v:Int)+d≤17→k+nsz v≤1000→2*hgt v≤n →
  ∃ r',eE n d k r=some (v,((k+nsz v:Nat):Int),r')∧At r' rest:=by
 intro n
 induction n using Nat.strongRecOn with
 | _ n ih =>
  intro v d k r rest hat hv hf hs hd0 hd hk hn
  have hh:=nQ v
  have hz:=aIS v
  obtain ⟨m,rfl⟩:∃ m,n=m+2:=⟨n - 2,by omega⟩
  obtain ⟨q0,q1,q2,q3,q4⟩:=(fS v).1 hv
  have hft:=hf
  rw [aRc (hgt v) v (fB _)] at hft
  simp only [aY,iJ] at hft
  obtain ⟨l1,l2,l3⟩:=aIA hft.1
  have hfi:∀ x∈v.Items,fmd false x=true:=(aIA hf).2.2
  have hs':=hs
  rw [aOz] at hs'
  simp only [aY,iJ,cI,List.any_eq_false,pF,decide_eq_false_iff_not,cB] at hs'
  obtain ⟨⟨s1,s2⟩,s3⟩:=hs'
  have hflo:aDe false v=true:=by rw [aFs,aY] at hf;exact hf.1
  have hk05:0≤v.Kind∧v.Kind≤5:=by
   unfold aDe at hflo
   by_cases h0:v.Kind=0
   ·
    omega
   by_cases h1:v.Kind=1
   ·
    omega
   by_cases h2:v.Kind=2
   ·
    omega
   by_cases h6:v.Kind=6
   ·
    simp [h6] at hflo
   by_cases h3:v.Kind=3
   ·
    omega
   by_cases h4:v.Kind=4
   ·
    omega
   by_cases h5:v.Kind=5
   ·
    omega
   simp [h0,h1,h2,h6,h3,h4,h5] at hflo
  rw [aIf,dD] at hat
  obtain ⟨r1,a1,a2⟩:=aAc (low:=-9223372036854775808) (high:=9223372036854775807) hat q0 q0.1 q0.2
  have ek:IntKind.i64.wrap ((k:Int)+1)=((k+1:Nat):Int):=by rw [w64 (by omega) (by omega)];omega
  rw [eE]
  have c1:(cond (decide ((k:Int)<(1000:Int))) (decide (d≤(16:Int))) false)=true:=by
   have h1:(k:Int)<1000:=by omega
   have h2:d≤16:=by omega
   simp [h1,h2]
  have c2:(cond (decide ((0:Int)≤v.Kind)) (decide (v.Kind≤(5:Int))) false)=true:=by simp [hk05.1,hk05.2]
  rw [c1,aIT _ hat]
  simp only [aA,bE,aZ]
  rw [a1]
  simp only [aA]
  rw [c2,ek,aIT _ a2]
  simp only [aA,bE,aZ]
  have hnil:∀ {α:Type}{l:List α},decide (l.length=0)=true→l=[]:=fun h=>by simpa using h
  by_cases h1:v.Kind=1
  ·
   simp only [h1,nA,bQ] at a2
   obtain ⟨r2,b1,b2⟩:=aAc (low:=-9223372036854775808) (high:=9223372036854775807) a2 q1 q1.1 q1.2
   have hfl:=hflo
   simp only [aDe,h1,Int.reduceEq,bQ,cD,aY,dJ,cB] at hfl
   have c3:(cond (decide (v.Int=(0:Int))) true (decide (v.Int=(1:Int))))=true:=by rcases hfl.1.1.1 with h | h <;> simp [h]
   simp only [h1,bC,bS]
   rw [b1]
   simp only [aA]
   rw [c3,aIT _ b2]
   simp only [aA,Fl.next]
   have hit:=l1 (by omega) (by omega)
   have hks:v.Keys=[]:=by simpa using hfl.2
   have htx:v.Text=[]:=hfl.1.1.2
   refine ⟨r2,?_,b2⟩
   rw [hz,hit]
   obtain ⟨kd,i,t,l,ks⟩:=v
   simp only at h1 hit hks htx ⊢
   subst h1 hit hks htx
   simp [tA]
  by_cases h2:v.Kind=2
  ·
   simp only [h2,nA,nO,bQ] at a2
   obtain ⟨r2,b1,b2⟩:=aAc (low:=-9223372036854775808) (high:=9223372036854775807) a2 q1 q1.1 q1.2
   have hfl:=hflo
   simp only [aDe,h2,Int.reduceEq,bQ,cD,aY,cB] at hfl
   simp only [h2,Int.reduceEq,bP,bC,bS,aZ]
   rw [b1]
   simp only [aA,Fl.next]
   have hit:=l1 (by omega) (by omega)
   have hks:v.Keys=[]:=by simpa using hfl.2
   have htx:v.Text=[]:=hfl.1.1
   refine ⟨r2,?_,b2⟩
   rw [hz,hit]
   obtain ⟨kd,i,t,l,ks⟩:=v
   simp only at h2 hit hks htx ⊢
   subst h2 hit hks htx
   simp [tA]
  by_cases h3:v.Kind=3
  ·
   simp only [h3,Int.reduceEq,or_self,bQ,cD] at a2
   obtain ⟨r2,b1,b2⟩:=aEJ (most:=9223372036854775807) a2 (by omega)
   have hfl:=hflo
   simp only [aDe,h3,Int.reduceEq,bQ,cD,aY,cB] at hfl
   simp only [h3,Int.reduceEq,bP,bC,bS,aZ]
   rw [b1]
   simp only [aA]
   have c3:decide ((v.Text.length:Int)≤4096)=true:=by simp;omega
   rw [c3,aIT _ b2]
   simp only [aA,Fl.next]
   have hit:=l1 (by omega) (by omega)
   have hks:v.Keys=[]:=by simpa using hfl.2
   have hin:v.Int=0:=hfl.1.1
   refine ⟨r2,?_,b2⟩
   rw [hz,hit]
   obtain ⟨kd,i,t,l,ks⟩:=v
   simp only at h3 hit hks hin ⊢
   subst h3 hit hks hin
   simp [tA]
  by_cases h0:v.Kind=0
  ·
   simp only [h0,Int.reduceEq,or_self,cD,jH] at a2
   have hfl:=hflo
   simp only [aDe,h0,bQ,aY,cB] at hfl
   simp only [h0,Int.reduceEq,bP,aZ,aA,Fl.next]
   have hit:=l1 (by omega) (by omega)
   have hks:v.Keys=[]:=by simpa using hfl.2
   have htx:v.Text=[]:=hfl.1.1.2
   have hin:v.Int=0:=hfl.1.1.1
   refine ⟨r1,?_,a2⟩
   rw [hz,hit]
   obtain ⟨kd,i,t,l,ks⟩:=v
   simp only at h0 hit hks htx hin ⊢
   subst h0 hit hks htx hin
   simp [tA]
  have h45:v.Kind=4∨v.Kind=5:=by omega
  have e45:(cond (decide (v.Kind=(4:Int))) (some (decide (v.Kind=(4:Int)))) (some (decide (v.Kind=(5:Int)))))=some true:=by rcases h45 with h | h <;> simp [h]
  simp only [h1,h2,h3,bP,aZ]
  rw [e45]
  simp only [aA,bS]
  have hnl:v.Items.length≤tA v.Items:=aPc _
  have okn:tN (v.Items.length:Int):=⟨by omega,by omega⟩
  have hdw:IntKind.i64.wrap (d+1)=d+1:=w64 (by omega) (by omega)
  have c3:(cond (decide ((0:Int)≤(v.Items.length:Int))) (decide ((v.Items.length:Int)≤(1000:Int))) false)=true:=by
   have h1:(0:Int)≤(v.Items.length:Int):=by omega
   have h2:(v.Items.length:Int)≤1000:=by omega
   simp [h1,h2]
  have hItem:∀ (i:Nat) (hi:i<v.Items.length) (k':Nat) (r:aM) (rest:List UInt8),k'+nsz v.Items[i]≤1000→At r (sQ v.Items[i]++rest)→∃ r',eE m (IntKind.i64.wrap (d+1)) k' r=some (v.Items[i],((k'+nsz v.Items[i]:Nat):Int),r')∧At r' rest:=fun i hi k' r rest hk' hat'=>by
   have hmem:=bZ hi
   have hge:=qC hmem
   rw [hdw]
   exact ih m (by omega) v.Items[i] (d+1) k' r rest hat' (q3.2.2 _ hmem) (hfi _ hmem) (s3 _ hmem) (by omega) (by omega) hk' (by omega)
  rw [gV]
  by_cases h4:v.Kind=4
  ·
   simp only [h4,Int.reduceEq,or_self,bQ,cD,dD] at a2
   obtain ⟨r2,b1,b2⟩:=aAc (low:=-9223372036854775808) (high:=9223372036854775807) a2 okn okn.1 okn.2
   rw [b1]
   simp only [aA]
   rw [c3,aIT _ b2]
   simp only [aA,bE,aZ]
   obtain ⟨X,g1,g2⟩:=aAj (body:=fD (eE m) ((v.Items.length:Int),r2) v.Kind d)
    (fun s=>∃ (i:Nat) (r':aM),i≤v.Items.length∧s=((i:Int),((k+1+tA (v.Items.take i):Nat):Int),r',v.Items.take i,[])∧At r' ((v.Items.drop i).flatMap sQ++rest)) (fun s=>v.Items.length - s.1.toNat)
    (fun X=>∃ r',X=.go (((k+1+tA v.Items:Nat):Int),r',v.Items,[])∧At r' rest) (by
     rintro s ⟨i,r',hi,rfl,hat'⟩
     by_cases hlt:i<v.Items.length
     ·
      rw [aEQ sQ _ i hlt,dD] at hat'
      have ht1:=aGV v.Items i hlt
      have ht2:=aDm v.Items (i+1)
      obtain ⟨r3,f1,f2⟩:=hItem i hlt (k+1+tA (v.Items.take i)) r' _ (by omega) hat'
      refine .inl ⟨_,?_,⟨i+1,r3,by omega,rfl,f2⟩,by simp;omega⟩
      unfold fD
      simp only
      rw [dF,aT (by omega)]
      simp only [h4,Int.reduceEq,bP,aZ,aA,Fl.next]
      rw [f1]
      simp only [aA]
      rw [uP f2,oQ (by simp;omega),pW hlt (by omega),eN hlt]
      simp only [aA,bC,bE,aZ]
      rw [← eN hlt,ht1,jR]
     ·
      obtain rfl:i=v.Items.length:=by omega
      refine .inr ⟨.go (((k+1+tA v.Items:Nat):Int),r',v.Items,[]),?_,r',rfl,by simpa using hat'⟩
      unfold fD
      simp only
      rw [dF,aQ (by omega),kO]) ((0:Int),((k+1:Nat):Int),r2,[],[]) ⟨0,r2,by omega,by simp [tA],by simpa using b2⟩
   obtain ⟨r',rfl,hat'⟩:=g2
   rw [h4] at g1
   rw [h4,g1]
   simp only [aA,Fl.next]
   have hfl:=hflo
   simp only [aDe,h4,Int.reduceEq,bQ,cD,aY,cB] at hfl
   have hks:v.Keys=[]:=by simpa using hfl.2
   have htx:v.Text=[]:=hfl.1.2
   have hin:v.Int=0:=hfl.1.1
   refine ⟨r',?_,hat'⟩
   rw [hz]
   obtain ⟨kd,i,t,l,ks⟩:=v
   simp only at h4 hks htx hin ⊢
   subst h4 hks htx hin
   rw [show k+1+tA l=k+(tA l+1) from by omega]
  ·
   have h5:v.Kind=5:=by omega
   have hlen:=l2 h5
   simp only [h5,Int.reduceEq,or_self,bQ,cD,dD] at a2
   obtain ⟨r2,b1,b2⟩:=aAc (low:=-9223372036854775808) (high:=9223372036854775807) a2 okn okn.1 okn.2
   rw [b1]
   simp only [aA]
   rw [c3,aIT _ b2]
   simp only [aA,bE,aZ]
   have hfl:=hflo
   simp only [aDe,h5,Int.reduceEq,bQ,cD,aY,cB] at hfl
   have hzl:(v.Items.zip v.Keys).length=v.Items.length:=by simp [hlen]
   obtain ⟨X,g1,g2⟩:=aAj (body:=fD (eE m) ((v.Items.length:Int),r2) v.Kind d)
    (fun s=>∃ (i:Nat) (r':aM),i≤v.Items.length∧s=((i:Int),((k+1+tA (v.Items.take i):Nat):Int),r',v.Items.take i,v.Keys.take i)∧At r' (((v.Items.zip v.Keys).drop i).flatMap (fun p=>uZ p.2++sQ p.1)++rest)) (fun s=>v.Items.length - s.1.toNat)
    (fun X=>∃ r',X=.go (((k+1+tA v.Items:Nat):Int),r',v.Items,v.Keys)∧At r' rest) (by
     rintro s ⟨i,r',hi,rfl,hat'⟩
     by_cases hlt:i<v.Items.length
     ·
      have hik:i<v.Keys.length:=by omega
      rw [aEQ _ _ i (by omega),dD,List.getElem_zip,dD] at hat'
      have ht1:=aGV v.Items i hlt
      have ht2:=aDm v.Items (i+1)
      obtain ⟨r3,e1,e2⟩:=aEJ (most:=9223372036854775807) hat' (by have:=s2 _ (bZ hik);simp only;omega)
      obtain ⟨r4,f1,f2⟩:=hItem i hlt (k+1+tA (v.Items.take i)) r3 _ (by omega) e2
      have hl4:(v.Keys[i].length:Int)≤4096:=by have:=s2 _ (bZ hik);omega
      have hprev:(gd ((decide ((v.Keys[i].length:Int)≤(4096:Int)))==true&&((decide ((i:Int)=(0:Int)))==false)) (lO (v.Keys.take i) (IntKind.wrap .i64 ((i:Int) - (1:Int)))))=some (if h:i=0 then [] else v.Keys[i - 1]'(by omega)):=by
       by_cases hi0:i=0
       ·
        subst hi0;simp [gd];rfl
       ·
        have e:IntKind.i64.wrap ((i:Int) - 1)=((i - 1:Nat):Int):=by rw [w64 (by omega) (by omega)];omega
        have c2:decide ((i:Int)=0)=false:=by simp;omega
        rw [e,iT (l:=v.Keys.take i) (i:=i - 1) (by simp;omega),c2,jS hl4]
        simp [gd,hi0]
      refine .inl ⟨((i+1:Nat),((k+1+tA (v.Items.take (i+1)):Nat):Int),r4,v.Items.take (i+1),v.Keys.take (i+1)),?_,⟨i+1,r4,by omega,rfl,f2⟩,by simp;omega⟩
      unfold fD
      simp only
      rw [dF,aT (by omega)]
      simp only [h5,bC,bS]
      rw [e1]
      simp only [aA]
      rw [hprev]
      simp only [aA]
      have hC:(cond (decide ((v.Keys[i].length:Int)≤(4096:Int))) (cond (decide ((i:Int)=(0:Int))) true (!(Op.bytesLess v.Keys[i] (if h:i=0 then [] else v.Keys[i - 1]'(by omega))||decide (v.Keys[i]=(if h:i=0 then [] else v.Keys[i - 1]'(by omega)))))) false)=true:=by
       rw [jS hl4,aIo]
       by_cases hi0:i=0
       ·
        subst hi0;simp
       ·
        have c2:decide ((i:Int)=0)=false:=by simp;omega
        have hr:=aQn (l:=v.Keys) (by omega) hfl.2 (i - 1) (by omega)
        have e:i - 1+1=i:=by omega
        simp only [e] at hr
        rw [c2];simp [hi0,hr]
      rw [hC,aIT _ e2]
      simp only [aA,bE,aZ]
      rw [oQ (by simp;omega)]
      simp only [aA,Fl.next]
      rw [f1]
      simp only [aA]
      rw [uP f2,oQ (by simp;omega),pW hlt (by omega)]
      simp only [aA,bC,bE,aZ]
      rw [← eN hlt,← eN hik,ht1,jR]
     ·
      obtain rfl:i=v.Items.length:=by omega
      refine .inr ⟨.go (((k+1+tA v.Items:Nat):Int),r',v.Items,v.Keys),?_,r',rfl,?_⟩
      ·
       unfold fD
       simp only
       rw [dF,aQ (by omega),kO,← hlen,kO]
      ·
       rw [pJ (by omega)] at hat';simpa using hat') ((0:Int),((k+1:Nat):Int),r2,[],[]) ⟨0,r2,by omega,by simp [tA],by simpa using b2⟩
   obtain ⟨r',rfl,hat'⟩:=g2
   rw [h5] at g1
   rw [h5,g1]
   simp only [aA,Fl.next]
   have htx:v.Text=[]:=hfl.1.1.2
   have hin:v.Int=0:=hfl.1.1.1
   refine ⟨r',?_,hat'⟩
   rw [hz]
   obtain ⟨kd,i,t,l,ks⟩:=v
   simp only at h5 htx hin ⊢
   subst h5 htx hin
   rw [show k+1+tA l=k+(tA l+1) from by omega]

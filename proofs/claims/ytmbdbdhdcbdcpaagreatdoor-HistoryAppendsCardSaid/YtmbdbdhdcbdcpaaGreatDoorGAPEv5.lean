/- Events: the program and the reference agree on what is right; EventRight and EventCommands: the plain laws. -/
import Derived.Test.YtmbdbdhdcbdcpaaGreatDoorGAPEv4
import Derived.Test.YtmbdbdhdcbdcpaaGreatDoorGAPCopy
namespace Go.Proofs.YtmbdbdhdcbdcpaaGreatDoor
open Go Abs
set_option linter.unusedSimpArgs false
set_option linter.unusedVariables false
set_option maxRecDepth 20000
theorem agree1 {sq rf n cd:Int}{nm ky:List UInt8}{d:ApiValue}{op:ApiPolicy} (hz:vright d=true→vsame d zeroV=decide (d.Kind=0)):(vright d&&(emptyB (usesE 1) ⟨0,1,0,sq,rf,n,cd,nm,ky,d,op⟩&&(!(usesE 1).seq_||inB sq 1 2000)&&(!(usesE 1).ref_||inB rf 1 2000)&&partB ⟨0,1,0,sq,rf,n,cd,nm,ky,d,op⟩))=(bareR (usesR 1) ⟨0,1,0,sq,rf,n,cd,nm,ky,d,op⟩&&partR ⟨0,1,0,sq,rf,n,cd,nm,ky,d,op⟩):=by
 unfold emptyB bareR usesE usesR partB partR
 simp only [Int.reduceEq,decide_true,decide_false,cond_true,cond_false,Bool.or_false,Bool.false_or,if_true,if_false,Bool.false_eq_true,Bool.true_or,Bool.true_and,Bool.and_true,Bool.not_true,Bool.not_false]
 grind
theorem agree2 {sq rf n cd:Int}{nm ky:List UInt8}{d:ApiValue}{op:ApiPolicy} (hz:vright d=true→vsame d zeroV=decide (d.Kind=0)):(vright d&&(emptyB (usesE 2) ⟨0,2,0,sq,rf,n,cd,nm,ky,d,op⟩&&(!(usesE 2).seq_||inB sq 1 2000)&&(!(usesE 2).ref_||inB rf 1 2000)&&partB ⟨0,2,0,sq,rf,n,cd,nm,ky,d,op⟩))=(bareR (usesR 2) ⟨0,2,0,sq,rf,n,cd,nm,ky,d,op⟩&&partR ⟨0,2,0,sq,rf,n,cd,nm,ky,d,op⟩):=by
 unfold emptyB bareR usesE usesR partB partR
 simp only [Int.reduceEq,decide_true,decide_false,cond_true,cond_false,Bool.or_false,Bool.false_or,if_true,if_false,Bool.false_eq_true,Bool.true_or,Bool.true_and,Bool.and_true,Bool.not_true,Bool.not_false]
 grind
theorem agree3 {sq rf n cd:Int}{nm ky:List UInt8}{d:ApiValue}{op:ApiPolicy} (hz:vright d=true→vsame d zeroV=decide (d.Kind=0)):(vright d&&(emptyB (usesE 3) ⟨0,3,0,sq,rf,n,cd,nm,ky,d,op⟩&&(!(usesE 3).seq_||inB sq 1 2000)&&(!(usesE 3).ref_||inB rf 1 2000)&&partB ⟨0,3,0,sq,rf,n,cd,nm,ky,d,op⟩))=(bareR (usesR 3) ⟨0,3,0,sq,rf,n,cd,nm,ky,d,op⟩&&partR ⟨0,3,0,sq,rf,n,cd,nm,ky,d,op⟩):=by
 unfold emptyB bareR usesE usesR partB partR
 simp only [Int.reduceEq,decide_true,decide_false,cond_true,cond_false,Bool.or_false,Bool.false_or,if_true,if_false,Bool.false_eq_true,Bool.true_or,Bool.true_and,Bool.and_true,Bool.not_true,Bool.not_false]
 grind
theorem agree4 {sq rf n cd:Int}{nm ky:List UInt8}{d:ApiValue}{op:ApiPolicy} (hz:vright d=true→vsame d zeroV=decide (d.Kind=0)):(vright d&&(emptyB (usesE 4) ⟨0,4,0,sq,rf,n,cd,nm,ky,d,op⟩&&(!(usesE 4).seq_||inB sq 1 2000)&&(!(usesE 4).ref_||inB rf 1 2000)&&partB ⟨0,4,0,sq,rf,n,cd,nm,ky,d,op⟩))=(bareR (usesR 4) ⟨0,4,0,sq,rf,n,cd,nm,ky,d,op⟩&&partR ⟨0,4,0,sq,rf,n,cd,nm,ky,d,op⟩):=by
 unfold emptyB bareR usesE usesR partB partR
 simp only [Int.reduceEq,decide_true,decide_false,cond_true,cond_false,Bool.or_false,Bool.false_or,if_true,if_false,Bool.false_eq_true,Bool.true_or,Bool.true_and,Bool.and_true,Bool.not_true,Bool.not_false]
 grind
theorem agree5 {sq rf n cd:Int}{nm ky:List UInt8}{d:ApiValue}{op:ApiPolicy} (hz:vright d=true→vsame d zeroV=decide (d.Kind=0)):(vright d&&(emptyB (usesE 5) ⟨0,5,0,sq,rf,n,cd,nm,ky,d,op⟩&&(!(usesE 5).seq_||inB sq 1 2000)&&(!(usesE 5).ref_||inB rf 1 2000)&&partB ⟨0,5,0,sq,rf,n,cd,nm,ky,d,op⟩))=(bareR (usesR 5) ⟨0,5,0,sq,rf,n,cd,nm,ky,d,op⟩&&partR ⟨0,5,0,sq,rf,n,cd,nm,ky,d,op⟩):=by
 unfold emptyB bareR usesE usesR partB partR
 simp only [Int.reduceEq,decide_true,decide_false,cond_true,cond_false,Bool.or_false,Bool.false_or,if_true,if_false,Bool.false_eq_true,Bool.true_or,Bool.true_and,Bool.and_true,Bool.not_true,Bool.not_false]
 grind
theorem agree6 {sq rf n cd:Int}{nm ky:List UInt8}{d:ApiValue}{op:ApiPolicy} (hz:vright d=true→vsame d zeroV=decide (d.Kind=0)):(vright d&&(emptyB (usesE 6) ⟨0,6,0,sq,rf,n,cd,nm,ky,d,op⟩&&(!(usesE 6).seq_||inB sq 1 2000)&&(!(usesE 6).ref_||inB rf 1 2000)&&partB ⟨0,6,0,sq,rf,n,cd,nm,ky,d,op⟩))=(bareR (usesR 6) ⟨0,6,0,sq,rf,n,cd,nm,ky,d,op⟩&&partR ⟨0,6,0,sq,rf,n,cd,nm,ky,d,op⟩):=by
 unfold emptyB bareR usesE usesR partB partR
 simp only [Int.reduceEq,decide_true,decide_false,cond_true,cond_false,Bool.or_false,Bool.false_or,if_true,if_false,Bool.false_eq_true,Bool.true_or,Bool.true_and,Bool.and_true,Bool.not_true,Bool.not_false]
 grind
theorem agree7 {sq rf n cd:Int}{nm ky:List UInt8}{d:ApiValue}{op:ApiPolicy} (hz:vright d=true→vsame d zeroV=decide (d.Kind=0)):cmdB ⟨0,7,0,sq,rf,n,cd,nm,ky,d,op⟩ 1=(bareR (usesR 7) ⟨0,7,0,sq,rf,n,cd,nm,ky,d,op⟩&&cright ⟨1,sq,nm,ky,n,d,op⟩):=by
 unfold cmdB
 simp only
 cases hC:cright ⟨1,sq,nm,ky,n,d,op⟩
 ·
  simp
 ·
  unfold cright at hC
  simp only [usesOf,bareB,Int.reduceEq,if_true,if_false,Bool.and_eq_true,Bool.or_eq_true,Bool.not_true,Bool.not_false,Bool.true_or,Bool.false_or,true_and,decide_eq_true_eq] at hC
  unfold bareR usesR
  simp only [Int.reduceEq,decide_true,decide_false,cond_true,cond_false,Bool.or_false,Bool.false_or,if_true,if_false,Bool.false_eq_true,Bool.true_or,Bool.true_and,Bool.and_true,or_false,false_or,or_true,true_or]
  grind
theorem agree8 {sq rf n cd:Int}{nm ky:List UInt8}{d:ApiValue}{op:ApiPolicy} (hz:vright d=true→vsame d zeroV=decide (d.Kind=0)):(vright d&&(emptyB (usesE 8) ⟨0,8,0,sq,rf,n,cd,nm,ky,d,op⟩&&(!(usesE 8).seq_||inB sq 1 2000)&&(!(usesE 8).ref_||inB rf 1 2000)&&partB ⟨0,8,0,sq,rf,n,cd,nm,ky,d,op⟩))=(bareR (usesR 8) ⟨0,8,0,sq,rf,n,cd,nm,ky,d,op⟩&&partR ⟨0,8,0,sq,rf,n,cd,nm,ky,d,op⟩):=by
 unfold emptyB bareR usesE usesR partB partR
 simp only [Int.reduceEq,decide_true,decide_false,cond_true,cond_false,Bool.or_false,Bool.false_or,if_true,if_false,Bool.false_eq_true,Bool.true_or,Bool.true_and,Bool.and_true,Bool.not_true,Bool.not_false]
 grind
theorem agree9 {sq rf n cd:Int}{nm ky:List UInt8}{d:ApiValue}{op:ApiPolicy} (hz:vright d=true→vsame d zeroV=decide (d.Kind=0)):(vright d&&(emptyB (usesE 9) ⟨0,9,0,sq,rf,n,cd,nm,ky,d,op⟩&&(!(usesE 9).seq_||inB sq 1 2000)&&(!(usesE 9).ref_||inB rf 1 2000)&&partB ⟨0,9,0,sq,rf,n,cd,nm,ky,d,op⟩))=(bareR (usesR 9) ⟨0,9,0,sq,rf,n,cd,nm,ky,d,op⟩&&partR ⟨0,9,0,sq,rf,n,cd,nm,ky,d,op⟩):=by
 unfold emptyB bareR usesE usesR partB partR
 simp only [Int.reduceEq,decide_true,decide_false,cond_true,cond_false,Bool.or_false,Bool.false_or,if_true,if_false,Bool.false_eq_true,Bool.true_or,Bool.true_and,Bool.and_true,Bool.not_true,Bool.not_false]
 grind
theorem agree10 {sq rf n cd:Int}{nm ky:List UInt8}{d:ApiValue}{op:ApiPolicy} (hz:vright d=true→vsame d zeroV=decide (d.Kind=0)):(vright d&&(emptyB (usesE 10) ⟨0,10,0,sq,rf,n,cd,nm,ky,d,op⟩&&(!(usesE 10).seq_||inB sq 1 2000)&&(!(usesE 10).ref_||inB rf 1 2000)&&partB ⟨0,10,0,sq,rf,n,cd,nm,ky,d,op⟩))=(bareR (usesR 10) ⟨0,10,0,sq,rf,n,cd,nm,ky,d,op⟩&&partR ⟨0,10,0,sq,rf,n,cd,nm,ky,d,op⟩):=by
 unfold emptyB bareR usesE usesR partB partR
 simp only [Int.reduceEq,decide_true,decide_false,cond_true,cond_false,Bool.or_false,Bool.false_or,if_true,if_false,Bool.false_eq_true,Bool.true_or,Bool.true_and,Bool.and_true,Bool.not_true,Bool.not_false]
 grind
theorem agree11 {sq rf n cd:Int}{nm ky:List UInt8}{d:ApiValue}{op:ApiPolicy} (hz:vright d=true→vsame d zeroV=decide (d.Kind=0)):(vright d&&(emptyB (usesE 11) ⟨0,11,0,sq,rf,n,cd,nm,ky,d,op⟩&&(!(usesE 11).seq_||inB sq 1 2000)&&(!(usesE 11).ref_||inB rf 1 2000)&&partB ⟨0,11,0,sq,rf,n,cd,nm,ky,d,op⟩))=(bareR (usesR 11) ⟨0,11,0,sq,rf,n,cd,nm,ky,d,op⟩&&partR ⟨0,11,0,sq,rf,n,cd,nm,ky,d,op⟩):=by
 unfold emptyB bareR usesE usesR partB partR
 simp only [Int.reduceEq,decide_true,decide_false,cond_true,cond_false,Bool.or_false,Bool.false_or,if_true,if_false,Bool.false_eq_true,Bool.true_or,Bool.true_and,Bool.and_true,Bool.not_true,Bool.not_false]
 grind
theorem agree12 {sq rf n cd:Int}{nm ky:List UInt8}{d:ApiValue}{op:ApiPolicy} (hz:vright d=true→vsame d zeroV=decide (d.Kind=0)):cmdB ⟨0,12,0,sq,rf,n,cd,nm,ky,d,op⟩ 2=(bareR (usesR 12) ⟨0,12,0,sq,rf,n,cd,nm,ky,d,op⟩&&cright ⟨2,sq,nm,ky,n,d,op⟩):=by
 unfold cmdB
 simp only
 cases hC:cright ⟨2,sq,nm,ky,n,d,op⟩
 ·
  simp
 ·
  unfold cright at hC
  simp only [usesOf,bareB,Int.reduceEq,if_true,if_false,Bool.and_eq_true,Bool.or_eq_true,Bool.not_true,Bool.not_false,Bool.true_or,Bool.false_or,true_and,decide_eq_true_eq] at hC
  unfold bareR usesR
  simp only [Int.reduceEq,decide_true,decide_false,cond_true,cond_false,Bool.or_false,Bool.false_or,if_true,if_false,Bool.false_eq_true,Bool.true_or,Bool.true_and,Bool.and_true,or_false,false_or,or_true,true_or]
  grind
theorem agree13 {sq rf n cd:Int}{nm ky:List UInt8}{d:ApiValue}{op:ApiPolicy} (hz:vright d=true→vsame d zeroV=decide (d.Kind=0)):(vright d&&(emptyB (usesE 13) ⟨0,13,0,sq,rf,n,cd,nm,ky,d,op⟩&&(!(usesE 13).seq_||inB sq 1 2000)&&(!(usesE 13).ref_||inB rf 1 2000)&&partB ⟨0,13,0,sq,rf,n,cd,nm,ky,d,op⟩))=(bareR (usesR 13) ⟨0,13,0,sq,rf,n,cd,nm,ky,d,op⟩&&partR ⟨0,13,0,sq,rf,n,cd,nm,ky,d,op⟩):=by
 unfold emptyB bareR usesE usesR partB partR
 simp only [Int.reduceEq,decide_true,decide_false,cond_true,cond_false,Bool.or_false,Bool.false_or,if_true,if_false,Bool.false_eq_true,Bool.true_or,Bool.true_and,Bool.and_true,Bool.not_true,Bool.not_false]
 grind
theorem agree14 {sq rf n cd:Int}{nm ky:List UInt8}{d:ApiValue}{op:ApiPolicy} (hz:vright d=true→vsame d zeroV=decide (d.Kind=0)):cmdB ⟨0,14,0,sq,rf,n,cd,nm,ky,d,op⟩ 3=(bareR (usesR 14) ⟨0,14,0,sq,rf,n,cd,nm,ky,d,op⟩&&cright ⟨3,sq,nm,ky,n,d,op⟩):=by
 unfold cmdB
 simp only
 cases hC:cright ⟨3,sq,nm,ky,n,d,op⟩
 ·
  simp
 ·
  unfold cright at hC
  simp only [usesOf,bareB,Int.reduceEq,if_true,if_false,Bool.and_eq_true,Bool.or_eq_true,Bool.not_true,Bool.not_false,Bool.true_or,Bool.false_or,true_and,decide_eq_true_eq] at hC
  unfold bareR usesR
  simp only [Int.reduceEq,decide_true,decide_false,cond_true,cond_false,Bool.or_false,Bool.false_or,if_true,if_false,Bool.false_eq_true,Bool.true_or,Bool.true_and,Bool.and_true,or_false,false_or,or_true,true_or]
  grind
theorem agree15 {sq rf n cd:Int}{nm ky:List UInt8}{d:ApiValue}{op:ApiPolicy} (hz:vright d=true→vsame d zeroV=decide (d.Kind=0)):(vright d&&(emptyB (usesE 15) ⟨0,15,0,sq,rf,n,cd,nm,ky,d,op⟩&&(!(usesE 15).seq_||inB sq 1 2000)&&(!(usesE 15).ref_||inB rf 1 2000)&&partB ⟨0,15,0,sq,rf,n,cd,nm,ky,d,op⟩))=(bareR (usesR 15) ⟨0,15,0,sq,rf,n,cd,nm,ky,d,op⟩&&partR ⟨0,15,0,sq,rf,n,cd,nm,ky,d,op⟩):=by
 unfold emptyB bareR usesE usesR partB partR
 simp only [Int.reduceEq,decide_true,decide_false,cond_true,cond_false,Bool.or_false,Bool.false_or,if_true,if_false,Bool.false_eq_true,Bool.true_or,Bool.true_and,Bool.and_true,Bool.not_true,Bool.not_false]
 grind
theorem agree16 {sq rf n cd:Int}{nm ky:List UInt8}{d:ApiValue}{op:ApiPolicy} (hz:vright d=true→vsame d zeroV=decide (d.Kind=0)):cmdB ⟨0,16,0,sq,rf,n,cd,nm,ky,d,op⟩ 4=(bareR (usesR 16) ⟨0,16,0,sq,rf,n,cd,nm,ky,d,op⟩&&cright ⟨4,sq,nm,ky,n,d,op⟩):=by
 unfold cmdB
 simp only
 cases hC:cright ⟨4,sq,nm,ky,n,d,op⟩
 ·
  simp
 ·
  unfold cright at hC
  simp only [usesOf,bareB,Int.reduceEq,if_true,if_false,Bool.and_eq_true,Bool.or_eq_true,Bool.not_true,Bool.not_false,Bool.true_or,Bool.false_or,true_and,decide_eq_true_eq] at hC
  unfold bareR usesR
  simp only [Int.reduceEq,decide_true,decide_false,cond_true,cond_false,Bool.or_false,Bool.false_or,if_true,if_false,Bool.false_eq_true,Bool.true_or,Bool.true_and,Bool.and_true,or_false,false_or,or_true,true_or]
  grind
theorem agree17 {sq rf n cd:Int}{nm ky:List UInt8}{d:ApiValue}{op:ApiPolicy} (hz:vright d=true→vsame d zeroV=decide (d.Kind=0)):(vright d&&(emptyB (usesE 17) ⟨0,17,0,sq,rf,n,cd,nm,ky,d,op⟩&&(!(usesE 17).seq_||inB sq 1 2000)&&(!(usesE 17).ref_||inB rf 1 2000)&&partB ⟨0,17,0,sq,rf,n,cd,nm,ky,d,op⟩))=(bareR (usesR 17) ⟨0,17,0,sq,rf,n,cd,nm,ky,d,op⟩&&partR ⟨0,17,0,sq,rf,n,cd,nm,ky,d,op⟩):=by
 unfold emptyB bareR usesE usesR partB partR
 simp only [Int.reduceEq,decide_true,decide_false,cond_true,cond_false,Bool.or_false,Bool.false_or,if_true,if_false,Bool.false_eq_true,Bool.true_or,Bool.true_and,Bool.and_true,Bool.not_true,Bool.not_false]
 grind
theorem agree18 {sq rf n cd:Int}{nm ky:List UInt8}{d:ApiValue}{op:ApiPolicy} (hz:vright d=true→vsame d zeroV=decide (d.Kind=0)):cmdB ⟨0,18,0,sq,rf,n,cd,nm,ky,d,op⟩ 7=(bareR (usesR 18) ⟨0,18,0,sq,rf,n,cd,nm,ky,d,op⟩&&cright ⟨7,sq,nm,ky,n,d,op⟩):=by
 unfold cmdB
 simp only
 cases hC:cright ⟨7,sq,nm,ky,n,d,op⟩
 ·
  simp
 ·
  unfold cright at hC
  simp only [usesOf,bareB,Int.reduceEq,if_true,if_false,Bool.and_eq_true,Bool.or_eq_true,Bool.not_true,Bool.not_false,Bool.true_or,Bool.false_or,true_and,decide_eq_true_eq] at hC
  unfold bareR usesR
  simp only [Int.reduceEq,decide_true,decide_false,cond_true,cond_false,Bool.or_false,Bool.false_or,if_true,if_false,Bool.false_eq_true,Bool.true_or,Bool.true_and,Bool.and_true,or_false,false_or,or_true,true_or]
  grind
theorem agree19 {sq rf n cd:Int}{nm ky:List UInt8}{d:ApiValue}{op:ApiPolicy} (hz:vright d=true→vsame d zeroV=decide (d.Kind=0)):cmdB ⟨0,19,0,sq,rf,n,cd,nm,ky,d,op⟩ 5=(bareR (usesR 19) ⟨0,19,0,sq,rf,n,cd,nm,ky,d,op⟩&&cright ⟨5,sq,nm,ky,n,d,op⟩):=by
 unfold cmdB
 simp only
 cases hC:cright ⟨5,sq,nm,ky,n,d,op⟩
 ·
  simp
 ·
  unfold cright at hC
  simp only [usesOf,bareB,Int.reduceEq,if_true,if_false,Bool.and_eq_true,Bool.or_eq_true,Bool.not_true,Bool.not_false,Bool.true_or,Bool.false_or,true_and,decide_eq_true_eq] at hC
  unfold bareR usesR
  simp only [Int.reduceEq,decide_true,decide_false,cond_true,cond_false,Bool.or_false,Bool.false_or,if_true,if_false,Bool.false_eq_true,Bool.true_or,Bool.true_and,Bool.and_true,or_false,false_or,or_true,true_or]
  grind
theorem agree20 {sq rf n cd:Int}{nm ky:List UInt8}{d:ApiValue}{op:ApiPolicy} (hz:vright d=true→vsame d zeroV=decide (d.Kind=0)):(vright d&&(emptyB (usesE 20) ⟨0,20,0,sq,rf,n,cd,nm,ky,d,op⟩&&(!(usesE 20).seq_||inB sq 1 2000)&&(!(usesE 20).ref_||inB rf 1 2000)&&partB ⟨0,20,0,sq,rf,n,cd,nm,ky,d,op⟩))=(bareR (usesR 20) ⟨0,20,0,sq,rf,n,cd,nm,ky,d,op⟩&&partR ⟨0,20,0,sq,rf,n,cd,nm,ky,d,op⟩):=by
 unfold emptyB bareR usesE usesR partB partR
 simp only [Int.reduceEq,decide_true,decide_false,cond_true,cond_false,Bool.or_false,Bool.false_or,if_true,if_false,Bool.false_eq_true,Bool.true_or,Bool.true_and,Bool.and_true,Bool.not_true,Bool.not_false]
 grind
theorem agree21 {sq rf n cd:Int}{nm ky:List UInt8}{d:ApiValue}{op:ApiPolicy} (hz:vright d=true→vsame d zeroV=decide (d.Kind=0)):(vright d&&(emptyB (usesE 21) ⟨0,21,0,sq,rf,n,cd,nm,ky,d,op⟩&&(!(usesE 21).seq_||inB sq 1 2000)&&(!(usesE 21).ref_||inB rf 1 2000)&&partB ⟨0,21,0,sq,rf,n,cd,nm,ky,d,op⟩))=(bareR (usesR 21) ⟨0,21,0,sq,rf,n,cd,nm,ky,d,op⟩&&partR ⟨0,21,0,sq,rf,n,cd,nm,ky,d,op⟩):=by
 unfold emptyB bareR usesE usesR partB partR
 simp only [Int.reduceEq,decide_true,decide_false,cond_true,cond_false,Bool.or_false,Bool.false_or,if_true,if_false,Bool.false_eq_true,Bool.true_or,Bool.true_and,Bool.and_true,Bool.not_true,Bool.not_false]
 grind
theorem agree22 {sq rf n cd:Int}{nm ky:List UInt8}{d:ApiValue}{op:ApiPolicy} (hz:vright d=true→vsame d zeroV=decide (d.Kind=0)):(vright d&&(emptyB (usesE 22) ⟨0,22,0,sq,rf,n,cd,nm,ky,d,op⟩&&(!(usesE 22).seq_||inB sq 1 2000)&&(!(usesE 22).ref_||inB rf 1 2000)&&partB ⟨0,22,0,sq,rf,n,cd,nm,ky,d,op⟩))=(bareR (usesR 22) ⟨0,22,0,sq,rf,n,cd,nm,ky,d,op⟩&&partR ⟨0,22,0,sq,rf,n,cd,nm,ky,d,op⟩):=by
 unfold emptyB bareR usesE usesR partB partR
 simp only [Int.reduceEq,decide_true,decide_false,cond_true,cond_false,Bool.or_false,Bool.false_or,if_true,if_false,Bool.false_eq_true,Bool.true_or,Bool.true_and,Bool.and_true,Bool.not_true,Bool.not_false]
 grind
theorem agree23 {sq rf n cd:Int}{nm ky:List UInt8}{d:ApiValue}{op:ApiPolicy} (hz:vright d=true→vsame d zeroV=decide (d.Kind=0)):cmdB ⟨0,23,0,sq,rf,n,cd,nm,ky,d,op⟩ 6=(bareR (usesR 23) ⟨0,23,0,sq,rf,n,cd,nm,ky,d,op⟩&&cright ⟨6,sq,nm,ky,n,d,op⟩):=by
 unfold cmdB
 simp only
 cases hC:cright ⟨6,sq,nm,ky,n,d,op⟩
 ·
  simp
 ·
  unfold cright at hC
  simp only [usesOf,bareB,Int.reduceEq,if_true,if_false,Bool.and_eq_true,Bool.or_eq_true,Bool.not_true,Bool.not_false,Bool.true_or,Bool.false_or,true_and,decide_eq_true_eq] at hC
  unfold bareR usesR
  simp only [Int.reduceEq,decide_true,decide_false,cond_true,cond_false,Bool.or_false,Bool.false_or,if_true,if_false,Bool.false_eq_true,Bool.true_or,Bool.true_and,Bool.and_true,or_false,false_or,or_true,true_or]
  grind
theorem agree24 {sq rf n cd:Int}{nm ky:List UInt8}{d:ApiValue}{op:ApiPolicy} (hz:vright d=true→vsame d zeroV=decide (d.Kind=0)):(vright d&&(emptyB (usesE 24) ⟨0,24,0,sq,rf,n,cd,nm,ky,d,op⟩&&(!(usesE 24).seq_||inB sq 1 2000)&&(!(usesE 24).ref_||inB rf 1 2000)&&partB ⟨0,24,0,sq,rf,n,cd,nm,ky,d,op⟩))=(bareR (usesR 24) ⟨0,24,0,sq,rf,n,cd,nm,ky,d,op⟩&&partR ⟨0,24,0,sq,rf,n,cd,nm,ky,d,op⟩):=by
 unfold emptyB bareR usesE usesR partB partR
 simp only [Int.reduceEq,decide_true,decide_false,cond_true,cond_false,Bool.or_false,Bool.false_or,if_true,if_false,Bool.false_eq_true,Bool.true_or,Bool.true_and,Bool.and_true,Bool.not_true,Bool.not_false]
 grind
theorem agree25 {sq rf n cd:Int}{nm ky:List UInt8}{d:ApiValue}{op:ApiPolicy} (hz:vright d=true→vsame d zeroV=decide (d.Kind=0)):(vright d&&(emptyB (usesE 25) ⟨0,25,0,sq,rf,n,cd,nm,ky,d,op⟩&&(!(usesE 25).seq_||inB sq 1 2000)&&(!(usesE 25).ref_||inB rf 1 2000)&&partB ⟨0,25,0,sq,rf,n,cd,nm,ky,d,op⟩))=(bareR (usesR 25) ⟨0,25,0,sq,rf,n,cd,nm,ky,d,op⟩&&partR ⟨0,25,0,sq,rf,n,cd,nm,ky,d,op⟩):=by
 unfold emptyB bareR usesE usesR partB partR
 simp only [Int.reduceEq,decide_true,decide_false,cond_true,cond_false,Bool.or_false,Bool.false_or,if_true,if_false,Bool.false_eq_true,Bool.true_or,Bool.true_and,Bool.and_true,Bool.not_true,Bool.not_false]
 grind
theorem agree26 {sq rf n cd:Int}{nm ky:List UInt8}{d:ApiValue}{op:ApiPolicy} (hz:vright d=true→vsame d zeroV=decide (d.Kind=0)):(vright d&&(emptyB (usesE 26) ⟨0,26,0,sq,rf,n,cd,nm,ky,d,op⟩&&(!(usesE 26).seq_||inB sq 1 2000)&&(!(usesE 26).ref_||inB rf 1 2000)&&partB ⟨0,26,0,sq,rf,n,cd,nm,ky,d,op⟩))=(bareR (usesR 26) ⟨0,26,0,sq,rf,n,cd,nm,ky,d,op⟩&&partR ⟨0,26,0,sq,rf,n,cd,nm,ky,d,op⟩):=by
 unfold emptyB bareR usesE usesR partB partR
 simp only [Int.reduceEq,decide_true,decide_false,cond_true,cond_false,Bool.or_false,Bool.false_or,if_true,if_false,Bool.false_eq_true,Bool.true_or,Bool.true_and,Bool.and_true,Bool.not_true,Bool.not_false]
 grind
theorem agree27 {sq rf n cd:Int}{nm ky:List UInt8}{d:ApiValue}{op:ApiPolicy} (hz:vright d=true→vsame d zeroV=decide (d.Kind=0)):cmdB ⟨0,27,0,sq,rf,n,cd,nm,ky,d,op⟩ 8=(bareR (usesR 27) ⟨0,27,0,sq,rf,n,cd,nm,ky,d,op⟩&&cright ⟨8,sq,nm,ky,n,d,op⟩):=by
 unfold cmdB
 simp only
 cases hC:cright ⟨8,sq,nm,ky,n,d,op⟩
 ·
  simp
 ·
  unfold cright at hC
  simp only [usesOf,bareB,Int.reduceEq,if_true,if_false,Bool.and_eq_true,Bool.or_eq_true,Bool.not_true,Bool.not_false,Bool.true_or,Bool.false_or,true_and,decide_eq_true_eq] at hC
  unfold bareR usesR
  simp only [Int.reduceEq,decide_true,decide_false,cond_true,cond_false,Bool.or_false,Bool.false_or,if_true,if_false,Bool.false_eq_true,Bool.true_or,Bool.true_and,Bool.and_true,or_false,false_or,or_true,true_or]
  grind
theorem agree28 {sq rf n cd:Int}{nm ky:List UInt8}{d:ApiValue}{op:ApiPolicy} (hz:vright d=true→vsame d zeroV=decide (d.Kind=0)):cmdB ⟨0,28,0,sq,rf,n,cd,nm,ky,d,op⟩ 9=(bareR (usesR 28) ⟨0,28,0,sq,rf,n,cd,nm,ky,d,op⟩&&cright ⟨9,sq,nm,ky,n,d,op⟩):=by
 unfold cmdB
 simp only
 cases hC:cright ⟨9,sq,nm,ky,n,d,op⟩
 ·
  simp
 ·
  unfold cright at hC
  simp only [usesOf,bareB,Int.reduceEq,if_true,if_false,Bool.and_eq_true,Bool.or_eq_true,Bool.not_true,Bool.not_false,Bool.true_or,Bool.false_or,true_and,decide_eq_true_eq] at hC
  unfold bareR usesR
  simp only [Int.reduceEq,decide_true,decide_false,cond_true,cond_false,Bool.or_false,Bool.false_or,if_true,if_false,Bool.false_eq_true,Bool.true_or,Bool.true_and,Bool.and_true,or_false,false_or,or_true,true_or]
  grind
theorem agree29 {sq rf n cd:Int}{nm ky:List UInt8}{d:ApiValue}{op:ApiPolicy} (hz:vright d=true→vsame d zeroV=decide (d.Kind=0)):cmdB ⟨0,29,0,sq,rf,n,cd,nm,ky,d,op⟩ 10=(bareR (usesR 29) ⟨0,29,0,sq,rf,n,cd,nm,ky,d,op⟩&&cright ⟨10,sq,nm,ky,n,d,op⟩):=by
 unfold cmdB
 simp only
 cases hC:cright ⟨10,sq,nm,ky,n,d,op⟩
 ·
  simp
 ·
  unfold cright at hC
  simp only [usesOf,bareB,Int.reduceEq,if_true,if_false,Bool.and_eq_true,Bool.or_eq_true,Bool.not_true,Bool.not_false,Bool.true_or,Bool.false_or,true_and,decide_eq_true_eq] at hC
  unfold bareR usesR
  simp only [Int.reduceEq,decide_true,decide_false,cond_true,cond_false,Bool.or_false,Bool.false_or,if_true,if_false,Bool.false_eq_true,Bool.true_or,Bool.true_and,Bool.and_true,or_false,false_or,or_true,true_or]
  grind
theorem agree30 {sq rf n cd:Int}{nm ky:List UInt8}{d:ApiValue}{op:ApiPolicy} (hz:vright d=true→vsame d zeroV=decide (d.Kind=0)):cmdB ⟨0,30,0,sq,rf,n,cd,nm,ky,d,op⟩ 11=(bareR (usesR 30) ⟨0,30,0,sq,rf,n,cd,nm,ky,d,op⟩&&cright ⟨11,sq,nm,ky,n,d,op⟩):=by
 unfold cmdB
 simp only
 cases hC:cright ⟨11,sq,nm,ky,n,d,op⟩
 ·
  simp
 ·
  unfold cright at hC
  simp only [usesOf,bareB,Int.reduceEq,if_true,if_false,Bool.and_eq_true,Bool.or_eq_true,Bool.not_true,Bool.not_false,Bool.true_or,Bool.false_or,true_and,decide_eq_true_eq] at hC
  unfold bareR usesR
  simp only [Int.reduceEq,decide_true,decide_false,cond_true,cond_false,Bool.or_false,Bool.false_or,if_true,if_false,Bool.false_eq_true,Bool.true_or,Bool.true_and,Bool.and_true,or_false,false_or,or_true,true_or]
  grind
theorem agree31 {sq rf n cd:Int}{nm ky:List UInt8}{d:ApiValue}{op:ApiPolicy} (hz:vright d=true→vsame d zeroV=decide (d.Kind=0)):cmdB ⟨0,31,0,sq,rf,n,cd,nm,ky,d,op⟩ 12=(bareR (usesR 31) ⟨0,31,0,sq,rf,n,cd,nm,ky,d,op⟩&&cright ⟨12,sq,nm,ky,n,d,op⟩):=by
 unfold cmdB
 simp only
 cases hC:cright ⟨12,sq,nm,ky,n,d,op⟩
 ·
  simp
 ·
  unfold cright at hC
  simp only [usesOf,bareB,Int.reduceEq,if_true,if_false,Bool.and_eq_true,Bool.or_eq_true,Bool.not_true,Bool.not_false,Bool.true_or,Bool.false_or,true_and,decide_eq_true_eq] at hC
  unfold bareR usesR
  simp only [Int.reduceEq,decide_true,decide_false,cond_true,cond_false,Bool.or_false,Bool.false_or,if_true,if_false,Bool.false_eq_true,Bool.true_or,Bool.true_and,Bool.and_true,or_false,false_or,or_true,true_or]
  grind
theorem agree32 {sq rf n cd:Int}{nm ky:List UInt8}{d:ApiValue}{op:ApiPolicy} (hz:vright d=true→vsame d zeroV=decide (d.Kind=0)):cmdB ⟨0,32,0,sq,rf,n,cd,nm,ky,d,op⟩ 13=(bareR (usesR 32) ⟨0,32,0,sq,rf,n,cd,nm,ky,d,op⟩&&cright ⟨13,sq,nm,ky,n,d,op⟩):=by
 unfold cmdB
 simp only
 cases hC:cright ⟨13,sq,nm,ky,n,d,op⟩
 ·
  simp
 ·
  unfold cright at hC
  simp only [usesOf,bareB,Int.reduceEq,if_true,if_false,Bool.and_eq_true,Bool.or_eq_true,Bool.not_true,Bool.not_false,Bool.true_or,Bool.false_or,true_and,decide_eq_true_eq] at hC
  unfold bareR usesR
  simp only [Int.reduceEq,decide_true,decide_false,cond_true,cond_false,Bool.or_false,Bool.false_or,if_true,if_false,Bool.false_eq_true,Bool.true_or,Bool.true_and,Bool.and_true,or_false,false_or,or_true,true_or]
  grind
theorem agree33 {sq rf n cd:Int}{nm ky:List UInt8}{d:ApiValue}{op:ApiPolicy} (hz:vright d=true→vsame d zeroV=decide (d.Kind=0)):(vright d&&(emptyB (usesE 33) ⟨0,33,0,sq,rf,n,cd,nm,ky,d,op⟩&&(!(usesE 33).seq_||inB sq 1 2000)&&(!(usesE 33).ref_||inB rf 1 2000)&&partB ⟨0,33,0,sq,rf,n,cd,nm,ky,d,op⟩))=(bareR (usesR 33) ⟨0,33,0,sq,rf,n,cd,nm,ky,d,op⟩&&partR ⟨0,33,0,sq,rf,n,cd,nm,ky,d,op⟩):=by
 unfold emptyB bareR usesE usesR partB partR
 simp only [Int.reduceEq,decide_true,decide_false,cond_true,cond_false,Bool.or_false,Bool.false_or,if_true,if_false,Bool.false_eq_true,Bool.true_or,Bool.true_and,Bool.and_true,Bool.not_true,Bool.not_false]
 grind
theorem agree34 {sq rf n cd:Int}{nm ky:List UInt8}{d:ApiValue}{op:ApiPolicy} (hz:vright d=true→vsame d zeroV=decide (d.Kind=0)):(vright d&&(emptyB (usesE 34) ⟨0,34,0,sq,rf,n,cd,nm,ky,d,op⟩&&(!(usesE 34).seq_||inB sq 1 2000)&&(!(usesE 34).ref_||inB rf 1 2000)&&partB ⟨0,34,0,sq,rf,n,cd,nm,ky,d,op⟩))=(bareR (usesR 34) ⟨0,34,0,sq,rf,n,cd,nm,ky,d,op⟩&&partR ⟨0,34,0,sq,rf,n,cd,nm,ky,d,op⟩):=by
 unfold emptyB bareR usesE usesR partB partR
 simp only [Int.reduceEq,decide_true,decide_false,cond_true,cond_false,Bool.or_false,Bool.false_or,if_true,if_false,Bool.false_eq_true,Bool.true_or,Bool.true_and,Bool.and_true,Bool.not_true,Bool.not_false]
 grind
theorem agree35 {sq rf n cd:Int}{nm ky:List UInt8}{d:ApiValue}{op:ApiPolicy} (hz:vright d=true→vsame d zeroV=decide (d.Kind=0)):cmdB ⟨0,35,0,sq,rf,n,cd,nm,ky,d,op⟩ 14=(bareR (usesR 35) ⟨0,35,0,sq,rf,n,cd,nm,ky,d,op⟩&&cright ⟨14,sq,nm,ky,n,d,op⟩):=by
 unfold cmdB
 simp only
 cases hC:cright ⟨14,sq,nm,ky,n,d,op⟩
 ·
  simp
 ·
  unfold cright at hC
  simp only [usesOf,bareB,Int.reduceEq,if_true,if_false,Bool.and_eq_true,Bool.or_eq_true,Bool.not_true,Bool.not_false,Bool.true_or,Bool.false_or,true_and,decide_eq_true_eq] at hC
  unfold bareR usesR
  simp only [Int.reduceEq,decide_true,decide_false,cond_true,cond_false,Bool.or_false,Bool.false_or,if_true,if_false,Bool.false_eq_true,Bool.true_or,Bool.true_and,Bool.and_true,or_false,false_or,or_true,true_or]
  grind
end Go.Proofs.YtmbdbdhdcbdcpaaGreatDoor

/- Events: what is right by the program is right by the reference. -/
import Derived.Test.YtmbdbdhdcbdcpaaGreatDoorGAPEv5
import Derived.Test.YtmbdbdhdcbdcpaaGreatDoorGAF3
namespace Go.Proofs.YtmbdbdhdcbdcpaaGreatDoor
open Go Abs
set_option linter.unusedSimpArgs false
set_option linter.unusedVariables false
set_option maxRecDepth 20000
theorem bareR_v {u:Ref22Fields}{e:ApiEvent} (h:vright e.Data=false):bareR u e=false:=by unfold bareR;simp [h]
noncomputable def restE (e:ApiEvent):Bool:=vright e.Data&&(if cmdOf e.Kind=0 then emptyB (usesE e.Kind) e&&(!(usesE e.Kind).seq_||inB e.Seq 1 2000)&&(!(usesE e.Kind).ref_||inB e.Ref 1 2000)&&partB e else cmdB e (cmdOf e.Kind))
noncomputable def restR (e:ApiEvent):Bool:=bareR (usesR e.Kind) e&&(if cmdOf e.Kind=0 then partR e else cright ⟨cmdOf e.Kind,e.Seq,e.Name,e.Key,e.N,e.Data,e.Opts⟩)
theorem fin1 {id t sq rf n cd:Int}{nm ky:List UInt8}{d:ApiValue}{op:ApiPolicy} (hz:vright d=true→vsame d zeroV=decide (d.Kind=0)):restE ⟨id,1,t,sq,rf,n,cd,nm,ky,d,op⟩=restR ⟨id,1,t,sq,rf,n,cd,nm,ky,d,op⟩:=by
 unfold restE restR
 simp only
 rw [if_pos (show cmdOf 1=0 from rfl),if_pos (show cmdOf 1=0 from rfl)]
 exact agree1 (sq:=sq) (rf:=rf) (n:=n) (cd:=cd) (nm:=nm) (ky:=ky) (op:=op) hz
theorem fin2 {id t sq rf n cd:Int}{nm ky:List UInt8}{d:ApiValue}{op:ApiPolicy} (hz:vright d=true→vsame d zeroV=decide (d.Kind=0)):restE ⟨id,2,t,sq,rf,n,cd,nm,ky,d,op⟩=restR ⟨id,2,t,sq,rf,n,cd,nm,ky,d,op⟩:=by
 unfold restE restR
 simp only
 rw [if_pos (show cmdOf 2=0 from rfl),if_pos (show cmdOf 2=0 from rfl)]
 exact agree2 (sq:=sq) (rf:=rf) (n:=n) (cd:=cd) (nm:=nm) (ky:=ky) (op:=op) hz
theorem fin3 {id t sq rf n cd:Int}{nm ky:List UInt8}{d:ApiValue}{op:ApiPolicy} (hz:vright d=true→vsame d zeroV=decide (d.Kind=0)):restE ⟨id,3,t,sq,rf,n,cd,nm,ky,d,op⟩=restR ⟨id,3,t,sq,rf,n,cd,nm,ky,d,op⟩:=by
 unfold restE restR
 simp only
 rw [if_pos (show cmdOf 3=0 from rfl),if_pos (show cmdOf 3=0 from rfl)]
 exact agree3 (sq:=sq) (rf:=rf) (n:=n) (cd:=cd) (nm:=nm) (ky:=ky) (op:=op) hz
theorem fin4 {id t sq rf n cd:Int}{nm ky:List UInt8}{d:ApiValue}{op:ApiPolicy} (hz:vright d=true→vsame d zeroV=decide (d.Kind=0)):restE ⟨id,4,t,sq,rf,n,cd,nm,ky,d,op⟩=restR ⟨id,4,t,sq,rf,n,cd,nm,ky,d,op⟩:=by
 unfold restE restR
 simp only
 rw [if_pos (show cmdOf 4=0 from rfl),if_pos (show cmdOf 4=0 from rfl)]
 exact agree4 (sq:=sq) (rf:=rf) (n:=n) (cd:=cd) (nm:=nm) (ky:=ky) (op:=op) hz
theorem fin5 {id t sq rf n cd:Int}{nm ky:List UInt8}{d:ApiValue}{op:ApiPolicy} (hz:vright d=true→vsame d zeroV=decide (d.Kind=0)):restE ⟨id,5,t,sq,rf,n,cd,nm,ky,d,op⟩=restR ⟨id,5,t,sq,rf,n,cd,nm,ky,d,op⟩:=by
 unfold restE restR
 simp only
 rw [if_pos (show cmdOf 5=0 from rfl),if_pos (show cmdOf 5=0 from rfl)]
 exact agree5 (sq:=sq) (rf:=rf) (n:=n) (cd:=cd) (nm:=nm) (ky:=ky) (op:=op) hz
theorem fin6 {id t sq rf n cd:Int}{nm ky:List UInt8}{d:ApiValue}{op:ApiPolicy} (hz:vright d=true→vsame d zeroV=decide (d.Kind=0)):restE ⟨id,6,t,sq,rf,n,cd,nm,ky,d,op⟩=restR ⟨id,6,t,sq,rf,n,cd,nm,ky,d,op⟩:=by
 unfold restE restR
 simp only
 rw [if_pos (show cmdOf 6=0 from rfl),if_pos (show cmdOf 6=0 from rfl)]
 exact agree6 (sq:=sq) (rf:=rf) (n:=n) (cd:=cd) (nm:=nm) (ky:=ky) (op:=op) hz
theorem fin7 {id t sq rf n cd:Int}{nm ky:List UInt8}{d:ApiValue}{op:ApiPolicy} (hz:vright d=true→vsame d zeroV=decide (d.Kind=0)):restE ⟨id,7,t,sq,rf,n,cd,nm,ky,d,op⟩=restR ⟨id,7,t,sq,rf,n,cd,nm,ky,d,op⟩:=by
 unfold restE restR
 simp only
 rw [if_neg (show ¬cmdOf 7=0 by decide),if_neg (show ¬cmdOf 7=0 by decide),show cmdOf 7=1 from rfl]
 have h:=agree7 (sq:=sq) (rf:=rf) (n:=n) (cd:=cd) (nm:=nm) (ky:=ky) (op:=op) hz
 cases hv:vright d
 ·
  rw [bareR_v hv];rfl
 ·
  exact h
theorem fin8 {id t sq rf n cd:Int}{nm ky:List UInt8}{d:ApiValue}{op:ApiPolicy} (hz:vright d=true→vsame d zeroV=decide (d.Kind=0)):restE ⟨id,8,t,sq,rf,n,cd,nm,ky,d,op⟩=restR ⟨id,8,t,sq,rf,n,cd,nm,ky,d,op⟩:=by
 unfold restE restR
 simp only
 rw [if_pos (show cmdOf 8=0 from rfl),if_pos (show cmdOf 8=0 from rfl)]
 exact agree8 (sq:=sq) (rf:=rf) (n:=n) (cd:=cd) (nm:=nm) (ky:=ky) (op:=op) hz
theorem fin9 {id t sq rf n cd:Int}{nm ky:List UInt8}{d:ApiValue}{op:ApiPolicy} (hz:vright d=true→vsame d zeroV=decide (d.Kind=0)):restE ⟨id,9,t,sq,rf,n,cd,nm,ky,d,op⟩=restR ⟨id,9,t,sq,rf,n,cd,nm,ky,d,op⟩:=by
 unfold restE restR
 simp only
 rw [if_pos (show cmdOf 9=0 from rfl),if_pos (show cmdOf 9=0 from rfl)]
 exact agree9 (sq:=sq) (rf:=rf) (n:=n) (cd:=cd) (nm:=nm) (ky:=ky) (op:=op) hz
theorem fin10 {id t sq rf n cd:Int}{nm ky:List UInt8}{d:ApiValue}{op:ApiPolicy} (hz:vright d=true→vsame d zeroV=decide (d.Kind=0)):restE ⟨id,10,t,sq,rf,n,cd,nm,ky,d,op⟩=restR ⟨id,10,t,sq,rf,n,cd,nm,ky,d,op⟩:=by
 unfold restE restR
 simp only
 rw [if_pos (show cmdOf 10=0 from rfl),if_pos (show cmdOf 10=0 from rfl)]
 exact agree10 (sq:=sq) (rf:=rf) (n:=n) (cd:=cd) (nm:=nm) (ky:=ky) (op:=op) hz
theorem fin11 {id t sq rf n cd:Int}{nm ky:List UInt8}{d:ApiValue}{op:ApiPolicy} (hz:vright d=true→vsame d zeroV=decide (d.Kind=0)):restE ⟨id,11,t,sq,rf,n,cd,nm,ky,d,op⟩=restR ⟨id,11,t,sq,rf,n,cd,nm,ky,d,op⟩:=by
 unfold restE restR
 simp only
 rw [if_pos (show cmdOf 11=0 from rfl),if_pos (show cmdOf 11=0 from rfl)]
 exact agree11 (sq:=sq) (rf:=rf) (n:=n) (cd:=cd) (nm:=nm) (ky:=ky) (op:=op) hz
theorem fin12 {id t sq rf n cd:Int}{nm ky:List UInt8}{d:ApiValue}{op:ApiPolicy} (hz:vright d=true→vsame d zeroV=decide (d.Kind=0)):restE ⟨id,12,t,sq,rf,n,cd,nm,ky,d,op⟩=restR ⟨id,12,t,sq,rf,n,cd,nm,ky,d,op⟩:=by
 unfold restE restR
 simp only
 rw [if_neg (show ¬cmdOf 12=0 by decide),if_neg (show ¬cmdOf 12=0 by decide),show cmdOf 12=2 from rfl]
 have h:=agree12 (sq:=sq) (rf:=rf) (n:=n) (cd:=cd) (nm:=nm) (ky:=ky) (op:=op) hz
 cases hv:vright d
 ·
  rw [bareR_v hv];rfl
 ·
  exact h
theorem fin13 {id t sq rf n cd:Int}{nm ky:List UInt8}{d:ApiValue}{op:ApiPolicy} (hz:vright d=true→vsame d zeroV=decide (d.Kind=0)):restE ⟨id,13,t,sq,rf,n,cd,nm,ky,d,op⟩=restR ⟨id,13,t,sq,rf,n,cd,nm,ky,d,op⟩:=by
 unfold restE restR
 simp only
 rw [if_pos (show cmdOf 13=0 from rfl),if_pos (show cmdOf 13=0 from rfl)]
 exact agree13 (sq:=sq) (rf:=rf) (n:=n) (cd:=cd) (nm:=nm) (ky:=ky) (op:=op) hz
theorem fin14 {id t sq rf n cd:Int}{nm ky:List UInt8}{d:ApiValue}{op:ApiPolicy} (hz:vright d=true→vsame d zeroV=decide (d.Kind=0)):restE ⟨id,14,t,sq,rf,n,cd,nm,ky,d,op⟩=restR ⟨id,14,t,sq,rf,n,cd,nm,ky,d,op⟩:=by
 unfold restE restR
 simp only
 rw [if_neg (show ¬cmdOf 14=0 by decide),if_neg (show ¬cmdOf 14=0 by decide),show cmdOf 14=3 from rfl]
 have h:=agree14 (sq:=sq) (rf:=rf) (n:=n) (cd:=cd) (nm:=nm) (ky:=ky) (op:=op) hz
 cases hv:vright d
 ·
  rw [bareR_v hv];rfl
 ·
  exact h
theorem fin15 {id t sq rf n cd:Int}{nm ky:List UInt8}{d:ApiValue}{op:ApiPolicy} (hz:vright d=true→vsame d zeroV=decide (d.Kind=0)):restE ⟨id,15,t,sq,rf,n,cd,nm,ky,d,op⟩=restR ⟨id,15,t,sq,rf,n,cd,nm,ky,d,op⟩:=by
 unfold restE restR
 simp only
 rw [if_pos (show cmdOf 15=0 from rfl),if_pos (show cmdOf 15=0 from rfl)]
 exact agree15 (sq:=sq) (rf:=rf) (n:=n) (cd:=cd) (nm:=nm) (ky:=ky) (op:=op) hz
theorem fin16 {id t sq rf n cd:Int}{nm ky:List UInt8}{d:ApiValue}{op:ApiPolicy} (hz:vright d=true→vsame d zeroV=decide (d.Kind=0)):restE ⟨id,16,t,sq,rf,n,cd,nm,ky,d,op⟩=restR ⟨id,16,t,sq,rf,n,cd,nm,ky,d,op⟩:=by
 unfold restE restR
 simp only
 rw [if_neg (show ¬cmdOf 16=0 by decide),if_neg (show ¬cmdOf 16=0 by decide),show cmdOf 16=4 from rfl]
 have h:=agree16 (sq:=sq) (rf:=rf) (n:=n) (cd:=cd) (nm:=nm) (ky:=ky) (op:=op) hz
 cases hv:vright d
 ·
  rw [bareR_v hv];rfl
 ·
  exact h
theorem fin17 {id t sq rf n cd:Int}{nm ky:List UInt8}{d:ApiValue}{op:ApiPolicy} (hz:vright d=true→vsame d zeroV=decide (d.Kind=0)):restE ⟨id,17,t,sq,rf,n,cd,nm,ky,d,op⟩=restR ⟨id,17,t,sq,rf,n,cd,nm,ky,d,op⟩:=by
 unfold restE restR
 simp only
 rw [if_pos (show cmdOf 17=0 from rfl),if_pos (show cmdOf 17=0 from rfl)]
 exact agree17 (sq:=sq) (rf:=rf) (n:=n) (cd:=cd) (nm:=nm) (ky:=ky) (op:=op) hz
theorem fin18 {id t sq rf n cd:Int}{nm ky:List UInt8}{d:ApiValue}{op:ApiPolicy} (hz:vright d=true→vsame d zeroV=decide (d.Kind=0)):restE ⟨id,18,t,sq,rf,n,cd,nm,ky,d,op⟩=restR ⟨id,18,t,sq,rf,n,cd,nm,ky,d,op⟩:=by
 unfold restE restR
 simp only
 rw [if_neg (show ¬cmdOf 18=0 by decide),if_neg (show ¬cmdOf 18=0 by decide),show cmdOf 18=7 from rfl]
 have h:=agree18 (sq:=sq) (rf:=rf) (n:=n) (cd:=cd) (nm:=nm) (ky:=ky) (op:=op) hz
 cases hv:vright d
 ·
  rw [bareR_v hv];rfl
 ·
  exact h
theorem fin19 {id t sq rf n cd:Int}{nm ky:List UInt8}{d:ApiValue}{op:ApiPolicy} (hz:vright d=true→vsame d zeroV=decide (d.Kind=0)):restE ⟨id,19,t,sq,rf,n,cd,nm,ky,d,op⟩=restR ⟨id,19,t,sq,rf,n,cd,nm,ky,d,op⟩:=by
 unfold restE restR
 simp only
 rw [if_neg (show ¬cmdOf 19=0 by decide),if_neg (show ¬cmdOf 19=0 by decide),show cmdOf 19=5 from rfl]
 have h:=agree19 (sq:=sq) (rf:=rf) (n:=n) (cd:=cd) (nm:=nm) (ky:=ky) (op:=op) hz
 cases hv:vright d
 ·
  rw [bareR_v hv];rfl
 ·
  exact h
theorem fin20 {id t sq rf n cd:Int}{nm ky:List UInt8}{d:ApiValue}{op:ApiPolicy} (hz:vright d=true→vsame d zeroV=decide (d.Kind=0)):restE ⟨id,20,t,sq,rf,n,cd,nm,ky,d,op⟩=restR ⟨id,20,t,sq,rf,n,cd,nm,ky,d,op⟩:=by
 unfold restE restR
 simp only
 rw [if_pos (show cmdOf 20=0 from rfl),if_pos (show cmdOf 20=0 from rfl)]
 exact agree20 (sq:=sq) (rf:=rf) (n:=n) (cd:=cd) (nm:=nm) (ky:=ky) (op:=op) hz
theorem fin21 {id t sq rf n cd:Int}{nm ky:List UInt8}{d:ApiValue}{op:ApiPolicy} (hz:vright d=true→vsame d zeroV=decide (d.Kind=0)):restE ⟨id,21,t,sq,rf,n,cd,nm,ky,d,op⟩=restR ⟨id,21,t,sq,rf,n,cd,nm,ky,d,op⟩:=by
 unfold restE restR
 simp only
 rw [if_pos (show cmdOf 21=0 from rfl),if_pos (show cmdOf 21=0 from rfl)]
 exact agree21 (sq:=sq) (rf:=rf) (n:=n) (cd:=cd) (nm:=nm) (ky:=ky) (op:=op) hz
theorem fin22 {id t sq rf n cd:Int}{nm ky:List UInt8}{d:ApiValue}{op:ApiPolicy} (hz:vright d=true→vsame d zeroV=decide (d.Kind=0)):restE ⟨id,22,t,sq,rf,n,cd,nm,ky,d,op⟩=restR ⟨id,22,t,sq,rf,n,cd,nm,ky,d,op⟩:=by
 unfold restE restR
 simp only
 rw [if_pos (show cmdOf 22=0 from rfl),if_pos (show cmdOf 22=0 from rfl)]
 exact agree22 (sq:=sq) (rf:=rf) (n:=n) (cd:=cd) (nm:=nm) (ky:=ky) (op:=op) hz
theorem fin23 {id t sq rf n cd:Int}{nm ky:List UInt8}{d:ApiValue}{op:ApiPolicy} (hz:vright d=true→vsame d zeroV=decide (d.Kind=0)):restE ⟨id,23,t,sq,rf,n,cd,nm,ky,d,op⟩=restR ⟨id,23,t,sq,rf,n,cd,nm,ky,d,op⟩:=by
 unfold restE restR
 simp only
 rw [if_neg (show ¬cmdOf 23=0 by decide),if_neg (show ¬cmdOf 23=0 by decide),show cmdOf 23=6 from rfl]
 have h:=agree23 (sq:=sq) (rf:=rf) (n:=n) (cd:=cd) (nm:=nm) (ky:=ky) (op:=op) hz
 cases hv:vright d
 ·
  rw [bareR_v hv];rfl
 ·
  exact h
theorem fin24 {id t sq rf n cd:Int}{nm ky:List UInt8}{d:ApiValue}{op:ApiPolicy} (hz:vright d=true→vsame d zeroV=decide (d.Kind=0)):restE ⟨id,24,t,sq,rf,n,cd,nm,ky,d,op⟩=restR ⟨id,24,t,sq,rf,n,cd,nm,ky,d,op⟩:=by
 unfold restE restR
 simp only
 rw [if_pos (show cmdOf 24=0 from rfl),if_pos (show cmdOf 24=0 from rfl)]
 exact agree24 (sq:=sq) (rf:=rf) (n:=n) (cd:=cd) (nm:=nm) (ky:=ky) (op:=op) hz
theorem fin25 {id t sq rf n cd:Int}{nm ky:List UInt8}{d:ApiValue}{op:ApiPolicy} (hz:vright d=true→vsame d zeroV=decide (d.Kind=0)):restE ⟨id,25,t,sq,rf,n,cd,nm,ky,d,op⟩=restR ⟨id,25,t,sq,rf,n,cd,nm,ky,d,op⟩:=by
 unfold restE restR
 simp only
 rw [if_pos (show cmdOf 25=0 from rfl),if_pos (show cmdOf 25=0 from rfl)]
 exact agree25 (sq:=sq) (rf:=rf) (n:=n) (cd:=cd) (nm:=nm) (ky:=ky) (op:=op) hz
theorem fin26 {id t sq rf n cd:Int}{nm ky:List UInt8}{d:ApiValue}{op:ApiPolicy} (hz:vright d=true→vsame d zeroV=decide (d.Kind=0)):restE ⟨id,26,t,sq,rf,n,cd,nm,ky,d,op⟩=restR ⟨id,26,t,sq,rf,n,cd,nm,ky,d,op⟩:=by
 unfold restE restR
 simp only
 rw [if_pos (show cmdOf 26=0 from rfl),if_pos (show cmdOf 26=0 from rfl)]
 exact agree26 (sq:=sq) (rf:=rf) (n:=n) (cd:=cd) (nm:=nm) (ky:=ky) (op:=op) hz
theorem fin27 {id t sq rf n cd:Int}{nm ky:List UInt8}{d:ApiValue}{op:ApiPolicy} (hz:vright d=true→vsame d zeroV=decide (d.Kind=0)):restE ⟨id,27,t,sq,rf,n,cd,nm,ky,d,op⟩=restR ⟨id,27,t,sq,rf,n,cd,nm,ky,d,op⟩:=by
 unfold restE restR
 simp only
 rw [if_neg (show ¬cmdOf 27=0 by decide),if_neg (show ¬cmdOf 27=0 by decide),show cmdOf 27=8 from rfl]
 have h:=agree27 (sq:=sq) (rf:=rf) (n:=n) (cd:=cd) (nm:=nm) (ky:=ky) (op:=op) hz
 cases hv:vright d
 ·
  rw [bareR_v hv];rfl
 ·
  exact h
theorem fin28 {id t sq rf n cd:Int}{nm ky:List UInt8}{d:ApiValue}{op:ApiPolicy} (hz:vright d=true→vsame d zeroV=decide (d.Kind=0)):restE ⟨id,28,t,sq,rf,n,cd,nm,ky,d,op⟩=restR ⟨id,28,t,sq,rf,n,cd,nm,ky,d,op⟩:=by
 unfold restE restR
 simp only
 rw [if_neg (show ¬cmdOf 28=0 by decide),if_neg (show ¬cmdOf 28=0 by decide),show cmdOf 28=9 from rfl]
 have h:=agree28 (sq:=sq) (rf:=rf) (n:=n) (cd:=cd) (nm:=nm) (ky:=ky) (op:=op) hz
 cases hv:vright d
 ·
  rw [bareR_v hv];rfl
 ·
  exact h
theorem fin29 {id t sq rf n cd:Int}{nm ky:List UInt8}{d:ApiValue}{op:ApiPolicy} (hz:vright d=true→vsame d zeroV=decide (d.Kind=0)):restE ⟨id,29,t,sq,rf,n,cd,nm,ky,d,op⟩=restR ⟨id,29,t,sq,rf,n,cd,nm,ky,d,op⟩:=by
 unfold restE restR
 simp only
 rw [if_neg (show ¬cmdOf 29=0 by decide),if_neg (show ¬cmdOf 29=0 by decide),show cmdOf 29=10 from rfl]
 have h:=agree29 (sq:=sq) (rf:=rf) (n:=n) (cd:=cd) (nm:=nm) (ky:=ky) (op:=op) hz
 cases hv:vright d
 ·
  rw [bareR_v hv];rfl
 ·
  exact h
theorem fin30 {id t sq rf n cd:Int}{nm ky:List UInt8}{d:ApiValue}{op:ApiPolicy} (hz:vright d=true→vsame d zeroV=decide (d.Kind=0)):restE ⟨id,30,t,sq,rf,n,cd,nm,ky,d,op⟩=restR ⟨id,30,t,sq,rf,n,cd,nm,ky,d,op⟩:=by
 unfold restE restR
 simp only
 rw [if_neg (show ¬cmdOf 30=0 by decide),if_neg (show ¬cmdOf 30=0 by decide),show cmdOf 30=11 from rfl]
 have h:=agree30 (sq:=sq) (rf:=rf) (n:=n) (cd:=cd) (nm:=nm) (ky:=ky) (op:=op) hz
 cases hv:vright d
 ·
  rw [bareR_v hv];rfl
 ·
  exact h
theorem fin31 {id t sq rf n cd:Int}{nm ky:List UInt8}{d:ApiValue}{op:ApiPolicy} (hz:vright d=true→vsame d zeroV=decide (d.Kind=0)):restE ⟨id,31,t,sq,rf,n,cd,nm,ky,d,op⟩=restR ⟨id,31,t,sq,rf,n,cd,nm,ky,d,op⟩:=by
 unfold restE restR
 simp only
 rw [if_neg (show ¬cmdOf 31=0 by decide),if_neg (show ¬cmdOf 31=0 by decide),show cmdOf 31=12 from rfl]
 have h:=agree31 (sq:=sq) (rf:=rf) (n:=n) (cd:=cd) (nm:=nm) (ky:=ky) (op:=op) hz
 cases hv:vright d
 ·
  rw [bareR_v hv];rfl
 ·
  exact h
theorem fin32 {id t sq rf n cd:Int}{nm ky:List UInt8}{d:ApiValue}{op:ApiPolicy} (hz:vright d=true→vsame d zeroV=decide (d.Kind=0)):restE ⟨id,32,t,sq,rf,n,cd,nm,ky,d,op⟩=restR ⟨id,32,t,sq,rf,n,cd,nm,ky,d,op⟩:=by
 unfold restE restR
 simp only
 rw [if_neg (show ¬cmdOf 32=0 by decide),if_neg (show ¬cmdOf 32=0 by decide),show cmdOf 32=13 from rfl]
 have h:=agree32 (sq:=sq) (rf:=rf) (n:=n) (cd:=cd) (nm:=nm) (ky:=ky) (op:=op) hz
 cases hv:vright d
 ·
  rw [bareR_v hv];rfl
 ·
  exact h
theorem fin33 {id t sq rf n cd:Int}{nm ky:List UInt8}{d:ApiValue}{op:ApiPolicy} (hz:vright d=true→vsame d zeroV=decide (d.Kind=0)):restE ⟨id,33,t,sq,rf,n,cd,nm,ky,d,op⟩=restR ⟨id,33,t,sq,rf,n,cd,nm,ky,d,op⟩:=by
 unfold restE restR
 simp only
 rw [if_pos (show cmdOf 33=0 from rfl),if_pos (show cmdOf 33=0 from rfl)]
 exact agree33 (sq:=sq) (rf:=rf) (n:=n) (cd:=cd) (nm:=nm) (ky:=ky) (op:=op) hz
theorem fin34 {id t sq rf n cd:Int}{nm ky:List UInt8}{d:ApiValue}{op:ApiPolicy} (hz:vright d=true→vsame d zeroV=decide (d.Kind=0)):restE ⟨id,34,t,sq,rf,n,cd,nm,ky,d,op⟩=restR ⟨id,34,t,sq,rf,n,cd,nm,ky,d,op⟩:=by
 unfold restE restR
 simp only
 rw [if_pos (show cmdOf 34=0 from rfl),if_pos (show cmdOf 34=0 from rfl)]
 exact agree34 (sq:=sq) (rf:=rf) (n:=n) (cd:=cd) (nm:=nm) (ky:=ky) (op:=op) hz
theorem fin35 {id t sq rf n cd:Int}{nm ky:List UInt8}{d:ApiValue}{op:ApiPolicy} (hz:vright d=true→vsame d zeroV=decide (d.Kind=0)):restE ⟨id,35,t,sq,rf,n,cd,nm,ky,d,op⟩=restR ⟨id,35,t,sq,rf,n,cd,nm,ky,d,op⟩:=by
 unfold restE restR
 simp only
 rw [if_neg (show ¬cmdOf 35=0 by decide),if_neg (show ¬cmdOf 35=0 by decide),show cmdOf 35=14 from rfl]
 have h:=agree35 (sq:=sq) (rf:=rf) (n:=n) (cd:=cd) (nm:=nm) (ky:=ky) (op:=op) hz
 cases hv:vright d
 ·
  rw [bareR_v hv];rfl
 ·
  exact h
theorem eright_eq (e:ApiEvent):eright e=rright e:=by
 have hz:=@zero_right e.Data
 have e1:eright e=(inB e.Kind 1 35&&inB e.ID 0 2000&&inB e.Time 0 1099511627776&&restE e):=by unfold eright restE;simp only [Bool.and_assoc]
 have e2:rright e=(inB e.Kind 1 35&&inB e.ID 0 2000&&inB e.Time 0 1099511627776&&restR e):=by unfold rright restR;simp only [Bool.and_assoc]
 rw [e1,e2]
 cases hk:inB e.Kind 1 35
 ·
  simp
 have hk2:1≤e.Kind∧e.Kind≤35:=by unfold inB at hk;simpa using hk
 have h:restE e=restR e:=by
  clear e1 e2 hk
  obtain ⟨id,kind,time,sq,rf,n,cd,nm,ky,d,op⟩:=e
  simp only at *
  have h:kind=1∨kind=2∨kind=3∨kind=4∨kind=5∨kind=6∨kind=7∨kind=8∨kind=9∨kind=10∨kind=11∨kind=12∨kind=13∨kind=14∨kind=15∨kind=16∨kind=17∨kind=18∨kind=19∨kind=20∨kind=21∨kind=22∨kind=23∨kind=24∨kind=25∨kind=26∨kind=27∨kind=28∨kind=29∨kind=30∨kind=31∨kind=32∨kind=33∨kind=34∨kind=35:=by omega
  rcases h with rfl | rfl | rfl | rfl | rfl | rfl | rfl | rfl | rfl | rfl | rfl | rfl | rfl | rfl | rfl | rfl | rfl | rfl | rfl | rfl | rfl | rfl | rfl | rfl | rfl | rfl | rfl | rfl | rfl | rfl | rfl | rfl | rfl | rfl | rfl
  ·
   exact fin1 hz
  ·
   exact fin2 hz
  ·
   exact fin3 hz
  ·
   exact fin4 hz
  ·
   exact fin5 hz
  ·
   exact fin6 hz
  ·
   exact fin7 hz
  ·
   exact fin8 hz
  ·
   exact fin9 hz
  ·
   exact fin10 hz
  ·
   exact fin11 hz
  ·
   exact fin12 hz
  ·
   exact fin13 hz
  ·
   exact fin14 hz
  ·
   exact fin15 hz
  ·
   exact fin16 hz
  ·
   exact fin17 hz
  ·
   exact fin18 hz
  ·
   exact fin19 hz
  ·
   exact fin20 hz
  ·
   exact fin21 hz
  ·
   exact fin22 hz
  ·
   exact fin23 hz
  ·
   exact fin24 hz
  ·
   exact fin25 hz
  ·
   exact fin26 hz
  ·
   exact fin27 hz
  ·
   exact fin28 hz
  ·
   exact fin29 hz
  ·
   exact fin30 hz
  ·
   exact fin31 hz
  ·
   exact fin32 hz
  ·
   exact fin33 hz
  ·
   exact fin34 hz
  ·
   exact fin35 hz
 rw [h]
end Go.Proofs.YtmbdbdhdcbdcpaaGreatDoor

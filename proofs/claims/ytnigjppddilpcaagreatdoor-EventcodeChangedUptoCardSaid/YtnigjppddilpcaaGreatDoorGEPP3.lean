/- Plain laws: what the functions compute, with no program in sight. -/
import Derived.Test.YtnigjppddilpcaaGreatDoorGEPP2
import Derived.Test.YtnigjppddilpcaaGreatDoorGEF6
import Derived.Test.YtnigjppddilpcaaGreatDoorGEF12
namespace Go.Proofs.YtnigjppddilpcaaGreatDoor
open Go Abs
set_option linter.unusedSimpArgs false
set_option linter.unusedVariables false
theorem aNW {T:List UInt8} (h:T.length=4):∃ a b c d,T=[a,b,c,d]:=by
 match T,h with
 | [a,b,c,d],_=>exact ⟨a,b,c,d,rfl⟩
theorem aLn {B:List UInt8}{a b c d:UInt8}:[a,b,c,d]=jN B↔(((cb (xU B) 24:Nat):Int)=(a.toNat:Int)∧((cb (xU B) 16:Nat):Int)=(b.toNat:Int)∧((cb (xU B) 8:Nat):Int)=(c.toNat:Int)∧((cb (xU B) 0:Nat):Int)=(d.toNat:Int)):=by
 unfold jN
 rw [eq_comm]
 simp only [List.cons.injEq,and_true]
 rw [aBB (nY _ _),aBB (nY _ _),aBB (nY _ _),aBB (nY _ _)]
noncomputable def unG (f:List UInt8→Option ((List aV) × Int)) (b:List UInt8):Option ((List aV) × Int) :=
 if b.length<4 then some ([],4) else if b.drop (b.length - 4)=jN (b.take (b.length - 4)) then f (b.take (b.length - 4)) else some ([],5)
theorem aGh {b:List UInt8} (hb:b.length≤1000000000):dY b=unG unP b:=by
 unfold dY unG
 by_cases h4:b.length<4
 ·
  rw [decide_eq_true (by omega),cond_true,if_pos h4]
 ·
  have hw:IntKind.wrap .i64 ((b.length:Int) - 4)=((b.length - 4:Nat):Int):=by rw [w64 (by omega) (by omega)];omega
  rw [decide_eq_false (by omega),cond_false,if_neg h4,hw,Int.toNat_natCast,aHJ (by omega),Option.bind_some,vX (by rw [List.length_take];omega),Option.bind_some,aEK (by omega),Option.bind_some]
  have hT:(b.drop (b.length - 4)).length=4:=by rw [List.length_drop];omega
  obtain ⟨x1,x2,x3,x4,e⟩:=aNW hT
  rw [e]
  rw [show aD2 4 [x1,x2,x3,x4]=some () from rfl,Option.bind_some,show gR [x1,x2,x3,x4] (0:Int)=some x1 from rfl,Option.bind_some,show gR [x1,x2,x3,x4] (1:Int)=some x2 from rfl,Option.bind_some,show gR [x1,x2,x3,x4] (2:Int)=some x3 from rfl,Option.bind_some,show gR [x1,x2,x3,x4] (3:Int)=some x4 from rfl,Option.bind_some]
  simp only
  generalize b.take (b.length - 4)=B
  have hd:(decide (((cb (xU B) 24:Nat):Int)=(x1.toNat:Int))&&(decide (((cb (xU B) 16:Nat):Int)=(x2.toNat:Int))&&(decide (((cb (xU B) 8:Nat):Int)=(x3.toNat:Int))&&(decide (((cb (xU B) 0:Nat):Int)=(x4.toNat:Int))&&true))))=decide ([x1,x2,x3,x4]=jN B):=by
   rw [Bool.eq_iff_iff]
   simp only [Bool.and_eq_true,decide_eq_true_eq,and_true]
   exact aLn.symm
  rw [hd]
  by_cases hs:[x1,x2,x3,x4]=jN B
  ·
   rw [if_pos hs,decide_eq_true hs,Bool.not_true,cond_false,Option.bind_some]
   rfl
  ·
   rw [if_neg hs,decide_eq_false hs,Bool.not_false,cond_true]
theorem aE7 {B:List UInt8}{i:Nat}{x:UInt8} (hB:B.length≤900000000) (hi:i<(B++jN B).length) (hx:(B++jN B)[i]≠x):dY ((B++jN B).set i x)=some ([],5):=by
 have h4:(jN B).length=4:=rfl
 have hl:((B++jN B).set i x).length=B.length+4:=by rw [List.length_set,List.length_append,h4]
 rw [aGh (by omega)]
 unfold unG
 rw [if_neg (by omega),hl,show B.length+4 - 4=B.length by omega,if_neg (fun h=>aLi hi hx h.symm)]
end Go.Proofs.YtnigjppddilpcaaGreatDoor
namespace Go.Proofs.YtnigjppddilpcaaGreatDoor
open Go Abs
set_option linter.unusedSimpArgs false
set_option linter.unusedVariables false
def sch:aV:=aV.mk (2:Int) (2:Int) (5:Int) (0:Int) (0:Int) (1:Int) (0:Int) ([]:List UInt8) ([]:List UInt8) (aD.mk (0:Int) (0:Int) ([]:List UInt8) ([]:(List aD)) ([]:(List (List UInt8)))) (bP.mk ([]:List UInt8) (0:Int) (0:Int) (0:Int) (0:Int) (0:Int) (0:Int) (0:Int) (0:Int) ([]:(List (List UInt8))))
def e00:aV:=aV.mk (0:Int) (0:Int) (0:Int) (0:Int) (0:Int) (0:Int) (0:Int) ([]:List UInt8) ([]:List UInt8) (aD.mk (0:Int) (0:Int) ([]:List UInt8) ([]:(List aD)) ([]:(List (List UInt8)))) (bP.mk ([]:List UInt8) (0:Int) (0:Int) (0:Int) (0:Int) (0:Int) (0:Int) (0:Int) (0:Int) ([]:(List (List UInt8))))
theorem aMI:lK=some sch:=rfl
theorem aLQ:cL ⟨0,0,[],[],[]⟩:=(dW _).2 (by simp [oG,okS,uG])
theorem aLP:eO ⟨[],0,0,0,0,0,0,0,0,[]⟩:=by simp [eO,oG,okS,uG]
theorem aMp:dP e00:=⟨by simp [e00,oG],by simp [e00,oG],by simp [e00,oG],by simp [e00,oG],by simp [e00,oG],by simp [e00,oG],by simp [e00,oG],by simp [e00,okS],by simp [e00,okS],aLQ,aLP⟩
theorem aGY:dP sch:=⟨by simp [sch,oG],by simp [sch,oG],by simp [sch,oG],by simp [sch,oG],by simp [sch,oG],by simp [sch,oG],by simp [sch,oG],by simp [sch,okS],by simp [sch,okS],aLQ,aLP⟩
theorem aLV:[sch].all nT=true:=by decide +kernel
theorem aNk:[e00].all nT=false:=by decide +kernel
theorem aLK:PV.bulkRows ([sch].map bZ)≤1048576:=by decide +kernel
theorem aMZ:PV.bulkRows ([e00].map bZ)≤1048576:=by decide +kernel
theorem aM0:PV.bulkRows (([]:List aV).map bZ)≤1048576:=by decide +kernel
theorem aM7:∀ e∈[sch],e.Name.length≤500∧e.Key.length≤500:=fun e he=>by rw [List.mem_singleton.1 he];decide +kernel
theorem aMj:uG 272 dP []:=⟨by simp,by simp,fun x hx=>by simp at hx⟩
theorem aHY:mM=some true:=by
 have h1:kE [sch]=(kQ [sch]++jN (kQ [sch]),0):=by unfold kE;rw [if_neg (by decide),aLV];rfl
 have h2:kE [e00]=([],11):=by unfold kE;rw [if_neg (by decide),aNk];rfl
 have h3:kE []=(kQ []++jN (kQ []),0):=by unfold kE;rw [if_neg (by decide)];rfl
 have h4:dY []=some ([],4):=by unfold dY;rfl
 have h5:kQ []=[0]:=by decide +kernel
 have hb:=aEk (aGZ aGY) aLK
 unfold mM
 rw [aMI,Option.bind_some,zF hb,Option.bind_some,h1]
 simp only
 rw [aEa (aGZ aGY) (by decide) (hb.2.2 (by decide)) (aKF aLK aLV aM7),Option.bind_some,h4,Option.bind_some,show aV.mk _ _ _ _ _ _ _ _ _ _ _=e00 from rfl,zF (aEk (aGZ aMp) aMZ),Option.bind_some,h2,zF (aEk aMj aM0),Option.bind_some,h3,h5]
 have hS:pN sch sch=some true:=by rw [aEH aGY,aGN]
 rw [show gR [sch] (0:Int)=some sch from rfl,show gR ([(0:UInt8)]++jN [0]) (0:Int)=some 0 from rfl]
 simp [gd,hS,show (jN [0]).length=4 from rfl]
end Go.Proofs.YtnigjppddilpcaaGreatDoor
namespace Go.Proofs.YtnigjppddilpcaaGreatDoor
open Go Abs
set_option linter.unusedSimpArgs false
set_option linter.unusedVariables false
theorem vL (l:List aV) (i x:Int) (h:uG 272 dP l) (hi:oG i) (hx:okW .u8 x) (hk:PV.bulkRows (l.map bZ)+0≤1048576):gI l i x=some true:=by
 have hbk:=aEk h (by omega)
 obtain ⟨z,hz⟩:=aIZ h
 unfold gI
 rw [hz,Option.bind_some]
 cases z
 ·
  rw [cond_false,zF hbk,Option.bind_some,aHY]
  by_cases he:(kE l).2=0
  ·
   by_cases h0:i<0
   ·
    rw [he,decide_eq_true h0];simp [gd]
   ·
    by_cases hl:((kE l).1.length:Int)≤i
    ·
     rw [he,decide_eq_true hl];simp [gd]
    ·
     have hlt:i.toNat<(kE l).1.length:=by omega
     have hii:i=(i.toNat:Int):=by omega
     rw [he,decide_eq_false h0,decide_eq_false hl,hii,eH hlt,Int.toNat_natCast]
     simp only [decide_true,Bool.not_true,cond_false,beq_self_eq_true,gd,if_true,Option.bind_some]
     by_cases hxx:(((kE l).1[i.toNat].toNat:Nat):Int)=x
     ·
      rw [decide_eq_true hxx];rfl
     ·
      rw [decide_eq_false hxx,cond_false]
      have hxr:0≤x∧x<256:=by
       simp [okW,Lit.wf,IntKind.min,IntKind.max,IntKind.signed,IntKind.bits] at hx
       omega
      have hbx:jP x=some (UInt8.ofNat x.toNat):=by unfold jP;rw [if_pos hxr]
      have hn:¬2000<l.length:=fun hn=>by
       have:kE l=([],6):=by unfold kE;rw [if_pos hn]
       rw [this] at he;cases he
      have hr:l.all nT=true:=by
       cases hr:l.all nT
       ·
        have:kE l=([],11):=by unfold kE;rw [if_neg hn,hr];rfl
        rw [this] at he;cases he
       ·
        rfl
      have hB:kE l=(kQ l++jN (kQ l),0):=by unfold kE;rw [if_neg hn,hr];rfl
      rw [hbx,Option.bind_some]
      have hbad:dY (List.set (kE l).1 i.toNat (UInt8.ofNat x.toNat))=some ([],5):=by
       have hlt':i.toNat<(kQ l++jN (kQ l)).length:=by rw [hB] at hlt;exact hlt
       have hne:(kQ l++jN (kQ l))[i.toNat]≠UInt8.ofNat x.toNat:=fun hq=>by
        have e1:(kE l).1[i.toNat]=(kQ l++jN (kQ l))[i.toNat]:=by congr 1;rw [hB]
        rw [e1,hq,UInt8.toNat_ofNat'] at hxx
        omega
       have:=aE7 (hbk.2.2 (by omega)) hlt' hne
       rw [hB];exact this
      rw [hbad]
      rfl
  ·
   rw [decide_eq_false he];simp [gd]
 ·
  rw [cond_true,aHY];rfl
end Go.Proofs.YtnigjppddilpcaaGreatDoor

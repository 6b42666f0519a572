/- Plain laws: what the functions compute, with no program in sight. -/
import Derived.Test.YtnigjppddilpcaaGreatDoorGEPP1
import Derived.Test.YtnigjppddilpcaaGreatDoorGEF14
import Derived.Test.YtnigjppddilpcaaGreatDoorGEF5
import Derived.Test.YtnigjppddilpcaaGreatDoorAbsU
import Derived.Test.YtnigjppddilpcaaGreatDoorGEF1
import Derived.Test.YtnigjppddilpcaaGreatDoorGEF8
import Derived.Test.YtnigjppddilpcaaGreatDoorGEPP0
import Derived.Test.YtnigjppddilpcaaGreatDoorGESh
import Derived.Test.YtnigjppddilpcaaGreatDoorGEF3
import Derived.Test.YtnigjppddilpcaaGreatDoorGEF2
import Derived.Test.YtnigjppddilpcaaGreatDoorGEF4
import Derived.Test.YtnigjppddilpcaaGreatDoorGEF6
import Derived.Test.YtnigjppddilpcaaGreatDoorGEF9
import Derived.Test.YtnigjppddilpcaaGreatDoorLib
import Derived.Test.YtnigjppddilpcaaGreatDoorGEF10
import Derived.Test.YtnigjppddilpcaaGreatDoorGEF0
import Derived.Test.YtnigjppddilpcaaGreatDoorGEF11
import Derived.Test.YtnigjppddilpcaaGreatDoorGEF12
import Derived.Test.YtnigjppddilpcaaGreatDoorGEF17
namespace Go.Proofs.YtnigjppddilpcaaGreatDoor
open Go Abs
set_option linter.unusedSimpArgs false
set_option linter.unusedVariables false
theorem tZ {r:aG}{n:Int}{rest:List UInt8} (h:At r (jJ n++rest)) (hn:oG n):∃ r',eG r=some (n,r')∧At r' rest:=by
 obtain ⟨r',h1,h2⟩:=oJ (low:=-9223372036854775808) (high:=9223372036854775807) h hn hn.1 hn.2
 exact ⟨r',by unfold eG;rw [h1];rfl,h2⟩
theorem aFQ {r:aG}{o:bP}{rest:List UInt8} (h:At r (aBn o++rest)) (ho:eO o) (hp:jU o=true):∃ r',hY r=some (o,r')∧At r' rest:=by
 obtain ⟨p1,p2,p3⟩:=sX hp
 obtain ⟨k0,k1,k2,k3,k4,k5,k6,k7,k8,k9⟩:=id ho
 have hok:oG (o.Fatal.length:Int):=⟨by omega,by omega⟩
 unfold aBn at h
 simp only [List.append_assoc] at h
 obtain ⟨r0,a0,l0⟩:=xE (most:=4096) h (by omega)
 obtain ⟨r1,a1,l1⟩:=tZ l0 k1
 obtain ⟨r2,a2,l2⟩:=tZ l1 k2
 obtain ⟨r3,a3,l3⟩:=tZ l2 k3
 obtain ⟨r4,a4,l4⟩:=tZ l3 k4
 obtain ⟨r5,a5,l5⟩:=tZ l4 k5
 obtain ⟨r6,a6,l6⟩:=tZ l5 k6
 obtain ⟨r7,a7,l7⟩:=tZ l6 k7
 obtain ⟨r8,a8,l8⟩:=tZ l7 k8
 obtain ⟨r9,a9,l9⟩:=tZ l8 hok
 unfold hY
 rw [a0]
 simp only [Option.bind_some,kT]
 rw [a1]
 simp only [Option.bind_some]
 rw [a2]
 simp only [Option.bind_some]
 rw [a3]
 simp only [Option.bind_some]
 rw [a4]
 simp only [Option.bind_some]
 rw [a5]
 simp only [Option.bind_some]
 rw [a6]
 simp only [Option.bind_some]
 rw [a7]
 simp only [Option.bind_some]
 rw [a8]
 simp only [Option.bind_some]
 rw [a9]
 simp only [Option.bind_some]
 rw [pG l9,nK]
 have hin:inB (o.Fatal.length:Int) 0 64=true:=by unfold inB;simp;omega
 rw [hin]
 simp only [Option.bind_some,decide_true,beq_self_eq_true,gd,if_true,Bool.not_true,cond_true,cond_false]
 obtain ⟨X,g1,g2⟩:=oP (body:=iE ((o.Fatal.length:Int),r9))
  (fun s=>∃ (i:Nat) (r':aG),i≤o.Fatal.length∧s=((i:Int),r',o.Fatal.take i)∧At r' ((o.Fatal.drop i).flatMap oH++rest)) (fun s=>o.Fatal.length - s.1.toNat)
  (fun X=>∃ r',X=(r',o.Fatal)∧At r' rest) (by
   rintro s ⟨i,r',hi,rfl,hat'⟩
   unfold iE
   by_cases hlt:i<o.Fatal.length
   ·
    rw [xN oH _ i hlt,List.append_assoc] at hat'
    obtain ⟨r3,f1,f2⟩:=xE (most:=4096) hat' (by have:=p3 _ (List.getElem_mem hlt);omega)
    refine .inl ⟨((i+1:Nat),r3,o.Fatal.take (i+1)),?_,⟨i+1,r3,by omega,rfl,f2⟩,by simp;omega⟩
    simp only
    rw [cE,if_pos (by omega),pG hat']
    simp only [Option.bind_some,decide_true,cond_true,Fl.next]
    rw [f1]
    simp only [Option.bind_some]
    rw [lQ (by simp;omega),jW hlt (by omega),← List.take_succ_eq_append_getElem hlt]
    rfl
   ·
    obtain rfl:i=o.Fatal.length:=by omega
    refine .inr ⟨(r',o.Fatal),?_,r',rfl,by simpa using hat'⟩
    simp only
    rw [cE,if_neg (by omega),List.take_length];rfl) ((0:Int),r9,[]) ⟨0,r9,by omega,by simp,by simpa using l9⟩
 obtain ⟨r',rfl,hat'⟩:=g2
 rw [g1]
 simp only [Option.bind_some]
 have hokP:eO ⟨o.Queue,o.ToStart,o.ToClose,o.Total,o.Beat,o.First,o.Coef,o.Most,o.Attempts,o.Fatal⟩:=ho
 have hpP:jU ⟨o.Queue,o.ToStart,o.ToClose,o.Total,o.Beat,o.First,o.Coef,o.Most,o.Attempts,o.Fatal⟩=true:=hp
 rw [pG hat',rE hokP,hpP]
 refine ⟨r',?_,hat'⟩
 simp only [Option.bind_some,decide_true,beq_self_eq_true,gd,if_true,Bool.not_true,cond_true,cond_false]
 rw [pG hat']
 rfl
theorem aAo {r:aG}{v:aD}{rest:List UInt8} (h:At r (lM v++rest)) (hv:cL v) (hr:pB v=true) (hn:nsz v≤1200):∃ r',oX r=some (v,r')∧At r' rest:=by
 obtain ⟨q1,q2,q3⟩:=aAq hr
 obtain ⟨d1,d2⟩:=aHt (qW v) v (Nat.le_refl _) (by omega)
 have hw:wth v=true:=by unfold pB at hr;simp only [Bool.and_eq_true] at hr;exact hr.1
 unfold wth at hw
 rw [d1,d2] at hw
 simp only [Bool.and_eq_true,decide_eq_true_eq] at hw
 obtain ⟨r',g1,g2⟩:=aHf (2*qW v) v 1 0 r rest h hv q2 q1 (by omega) (by omega) (by omega) (Nat.le_refl _)
 have g1:=tR g1
 simp only [Int.natCast_zero] at g1
 refine ⟨r',?_,g2⟩
 unfold oX
 rw [pG h]
 simp only [Option.bind_some,Int.reduceEq,decide_false,cond_false,Fl.next]
 rw [g1]
 simp only [Option.bind_some]
 rw [pG g2]
 rfl
end Go.Proofs.YtnigjppddilpcaaGreatDoor
namespace Go.Proofs.YtnigjppddilpcaaGreatDoor
open Go Abs
set_option linter.unusedSimpArgs false
set_option linter.unusedVariables false
def aKv (r r':aG) (x:List UInt8):Prop:=∀ rest,At r' rest→At r (x++rest)
theorem aKv.trans {r s t:aG}{x y:List UInt8} (h:aKv r s x) (k:aKv s t y):aKv r t (x++y):=fun rest ht=>by rw [List.append_assoc];exact h _ (k _ ht)
end Go.Proofs.YtnigjppddilpcaaGreatDoor
namespace Go.Proofs.YtnigjppddilpcaaGreatDoor
open Go Abs
set_option linter.unusedSimpArgs false
set_option linter.unusedVariables false
def E2 (kd:Int) (items:List aD) (aGU:List (List UInt8)):List UInt8:=if kd=4 then items.flatMap lM else (items.zip aGU).flatMap fun p=>oH p.2++lM p.1
end Go.Proofs.YtnigjppddilpcaaGreatDoor
namespace Go.Proofs.YtnigjppddilpcaaGreatDoor
open Go Abs
set_option linter.unusedSimpArgs false
set_option linter.unusedVariables false
end Go.Proofs.YtnigjppddilpcaaGreatDoor
namespace Go.Proofs.YtnigjppddilpcaaGreatDoor
open Go Abs
set_option linter.unusedSimpArgs false
set_option linter.unusedVariables false
theorem aB0 {α:Type}{row:α→List PV}:∀ {l:List α}{x:α},x∈l→PV.bulkRow (row x)≤PV.bulkRows (l.map row)
 | [],x,h=>by simp at h
 | y :: l,x,h=>by
  simp only [List.map_cons,PV.bulkRows]
  rcases List.mem_cons.1 h with rfl | h
  ·
   omega
  ·
   have:=aB0 (row:=row) h;omega
theorem aHg (v:aD):PV.bulkRow (aZ v)=v.Text.length+PV.bulkRows (v.Items.map aZ)+PV.bulkRows (v.Keys.map fD)+5:=by
 rw [dA]
 simp only [dD,PV.bulkRow,PV.bulk,PV.ls]
 omega
theorem aJh (s:List UInt8):PV.bulkRow (fD s)=s.length+1:=by simp [fD,PV.bulkRow,PV.bulk]
theorem aD5:∀ (n:Nat) (v:aD),qW v≤n→cL v→(lM v).length≤20*PV.bulkRow (aZ v):=by
 intro n
 induction n with
 | zero=>intro v h;have:=gV v;omega
 | succ n ih =>
  intro v h hv
  have hh:=gV v
  obtain ⟨k0,k1,k2,k3,k4⟩:=(dW v).1 hv
  have e1:=lJ k0
  have e2:=lJ k1
  have e3:=nQ (s:=v.Text) (by unfold okS at k2;omega)
  have e4:=qX (n:=v.Items.length) k3.1
  have hi:∀ x∈v.Items,(lM x).length≤20*PV.bulkRow (aZ x):=fun x hx=>ih x (by have:=iZ hx;omega) (k3.2.2 x hx)
  rw [aEP,aHg]
  simp only [List.length_append]
  have f4:∀ l:List aD,(∀ x∈l,(lM x).length≤20*PV.bulkRow (aZ x))→(l.flatMap lM).length≤20*PV.bulkRows (l.map aZ):=by
   intro l
   induction l with
   | nil=>intro _;simp
   | cons x l ihl =>
    intro hl
    have a1:=ihl (fun y hy=>hl y (by simp [hy]))
    have a2:=hl x (by simp)
    simp only [List.flatMap_cons,List.length_append,List.map_cons,PV.bulkRows];omega
  have key:∀ (l:List aD) (ks:List (List UInt8)),(∀ x∈l,(lM x).length≤20*PV.bulkRow (aZ x))→(∀ k∈ks,k.length≤9223372036854775807)→((l.zip ks).flatMap fun p=>oH p.2++lM p.1).length≤20*PV.bulkRows (l.map aZ)+20*PV.bulkRows (ks.map fD):=by
   intro l
   induction l with
   | nil=>intro ks _ _;simp
   | cons x l ihl =>
    intro ks hl hk
    cases ks with
    | nil=>simp
    | cons k ks =>
     have a1:=ihl ks (fun y hy=>hl y (by simp [hy])) (fun y hy=>hk y (by simp [hy]))
     have a2:=hl x (by simp)
     have a4:=nQ (s:=k) (hk k (by simp))
     have a5:=aJh k
     simp only [List.zip_cons_cons,List.flatMap_cons,List.length_append,List.map_cons,PV.bulkRows];omega
  have g4:=f4 v.Items hi
  have g5:=key v.Items v.Keys hi (fun k hk=>by have:=k4.2.2 k hk;unfold okS at this;omega)
  split
  ·
   omega
  ·
   split
   ·
    omega
   ·
    split
    ·
     simp only [List.length_append];omega
    ·
     split
     ·
      simp only [List.length_append];omega
     ·
      simp only [List.length_nil];omega
theorem aGL (e:aV):PV.bulkRow (bZ e)=e.Name.length+e.Key.length+PV.bulkRow (aZ e.Data)+PV.bulkRow (gA e.Opts)+9:=by
 rw [aHg]
 simp only [bZ,gA,PV.bulkRow,PV.bulk,PV.ls]
 omega
end Go.Proofs.YtnigjppddilpcaaGreatDoor
namespace Go.Proofs.YtnigjppddilpcaaGreatDoor
open Go Abs
set_option linter.unusedSimpArgs false
set_option linter.unusedVariables false
def kU (e:aV):List Int:=[e.ID,e.Kind,e.Time,e.Seq,e.Ref,e.N,e.Code]
noncomputable def uB (e:aV):List UInt8:=(kU e).flatMap jJ++oH e.Name++oH e.Key++(if sH true e.Data then lM e.Data else [])++(if jU e.Opts then aBn e.Opts else [])
theorem aDJ {e:aV} (h:dP e):∀ n∈kU e,oG n:=by
 obtain ⟨h1,h2,h3,h4,h5,h6,h7,h8,h9,h10,h11⟩:=h
 simp only [kU,List.mem_cons,List.not_mem_nil,or_false]
 rintro n (rfl | rfl | rfl | rfl | rfl | rfl | rfl) <;> assumption
theorem yN {e:aV} (h:dP e):((kU e).flatMap jJ).length≤70:=by
 have:=aEr jJ 10 (kU e) (fun n hn=>lJ (aDJ h n hn))
 simpa [kU] using this
def aBD (e:aV):Prop:=e.Name.length≤1000000000∧e.Key.length≤1000000000∧(lM e.Data).length≤1000000000
theorem aGP {e:aV} (h:dP e) (hb:PV.bulkRow (bZ e)≤1048576):aBD e:=by
 have h1:=aGL e
 have h2:=aD5 _ e.Data (Nat.le_refl _) h.2.2.2.2.2.2.2.2.2.1
 exact ⟨by omega,by omega,by omega⟩
theorem aJr {e:aV} (h:dP e) (hs:aBD e):(uB e).length≤4000000000:=by
 obtain ⟨s1,s2,s3⟩:=hs
 have h1:=yN h
 have h2:=nQ (s:=e.Name) (by omega)
 have h3:=nQ (s:=e.Key) (by omega)
 unfold uB
 simp only [List.length_append]
 have h4:(if sH true e.Data then lM e.Data else []).length≤1000000000:=by split;exact s3;simp
 have h5:(if jU e.Opts then aBn e.Opts else []).length≤300000:=by
  split
  ·
   rename_i hp;exact aAb h.2.2.2.2.2.2.2.2.2.2 hp
  ·
   simp
 omega
theorem aIl {e:aV} (h:dP e) (hb:PV.bulkRow (bZ e)≤1048576):(uB e).length≤400000+20*PV.bulkRow (bZ e):=by
 have h0:=aGL e
 have h1:=yN h
 have h2:=nQ (s:=e.Name) (by omega)
 have h3:=nQ (s:=e.Key) (by omega)
 have h6:=aD5 _ e.Data (Nat.le_refl _) h.2.2.2.2.2.2.2.2.2.1
 unfold uB
 simp only [List.length_append]
 have h4:(if sH true e.Data then lM e.Data else []).length≤20*PV.bulkRow (aZ e.Data):=by split;exact h6;simp
 have h5:(if jU e.Opts then aBn e.Opts else []).length≤300000:=by
  split
  ·
   rename_i hp;exact aAb h.2.2.2.2.2.2.2.2.2.2 hp
  ·
   simp
 omega
theorem aFs {b:List UInt8}{e:aV} (h:dP e) (hs:aBD e) (hb:b.length≤50000000000):kI b e=some (b++uB e)∧aAd b e=some (b++uB e):=by
 have hl:=yN h
 have hok:=aDJ h
 obtain ⟨s1,s2,s3⟩:=hs
 have hv:cL e.Data:=h.2.2.2.2.2.2.2.2.2.1
 have hp:eO e.Opts:=h.2.2.2.2.2.2.2.2.2.2
 have h2:=nQ (s:=e.Name) (by omega)
 have h3:=nQ (s:=e.Key) (by omega)
 have h4:(if sH true e.Data then lM e.Data else []).length≤1000000000:=by split;exact s3;simp
 constructor
 ·
  have hloop:dO (iK e) (b,(0:Int))=some (b++(kU e).flatMap jJ):=by
   refine oO 1000000000000 (kU e) jJ b (by simp only [List.length_append];omega) (fun s i hi hs=>?_) (fun s=>?_)
   ·
    unfold iK
    simp only [List.length_append] at hs
    rw [cE,if_pos (by show (i:Int)<((kU e).length:Int);omega),show gR ([e.ID,e.Kind,e.Time,e.Seq,e.Ref,e.N,e.Code]:List Int) (i:Int)=some (kU e)[i] from eH hi,Option.bind_some,yQ (by simp only;omega) (hok _ (List.getElem_mem hi)),Option.bind_some,jW hi (by simp [kU])]
   ·
    unfold iK
    rw [cE,if_neg (by simp [kU])]
  unfold kI
  rw [hloop,Option.bind_some,aID (by simp only [List.length_append];omega) (by omega),Option.bind_some,aID (by simp only [List.length_append];omega) (by omega),Option.bind_some,aBs hv (by simp only [List.length_append];omega),Option.bind_some,
   aBj hp (by simp only [List.length_append];omega),Option.bind_some]
  unfold uB
  simp only [List.append_assoc]
 ·
  have hloop:dO (nS e) (b,(0:Int))=some (b++(kU e).flatMap jJ):=by
   refine oO 1000000000000 (kU e) jJ b (by simp only [List.length_append];omega) (fun s i hi hs=>?_) (fun s=>?_)
   ·
    unfold nS
    simp only [List.length_append] at hs
    rw [cE,if_pos (by show (i:Int)<((kU e).length:Int);omega),show gR ([e.ID,e.Kind,e.Time,e.Seq,e.Ref,e.N,e.Code]:List Int) (i:Int)=some (kU e)[i] from eH hi,Option.bind_some,aDW (by simp only;omega) (hok _ (List.getElem_mem hi)),Option.bind_some,jW hi (by simp [kU])]
   ·
    unfold nS
    rw [cE,if_neg (by simp [kU])]
  unfold aAd
  rw [lQ (by simp;omega),Option.bind_some,List.nil_append,hloop,Option.bind_some,aDX (by simp only [List.length_append];omega) (by omega),Option.bind_some,aDX (by simp only [List.length_append];omega) (by omega),Option.bind_some,aEF hv (by simp only [List.length_append];omega),Option.bind_some,
   yT hp (by simp only [List.length_append];omega),Option.bind_some]
  unfold uB
  simp only [List.append_assoc]
end Go.Proofs.YtnigjppddilpcaaGreatDoor
namespace Go.Proofs.YtnigjppddilpcaaGreatDoor
open Go Abs
set_option linter.unusedSimpArgs false
set_option linter.unusedVariables false
end Go.Proofs.YtnigjppddilpcaaGreatDoor
namespace Go.Proofs.YtnigjppddilpcaaGreatDoor
open Go Abs
set_option linter.unusedSimpArgs false
set_option linter.unusedVariables false
end Go.Proofs.YtnigjppddilpcaaGreatDoor
namespace Go.Proofs.YtnigjppddilpcaaGreatDoor
open Go Abs
set_option linter.unusedSimpArgs false
set_option linter.unusedVariables false
theorem aCj {s:List UInt8} (h:s.length≤140737488355328):qG s=some (xL s):=by unfold qG;rw [if_pos h]
end Go.Proofs.YtnigjppddilpcaaGreatDoor
namespace Go.Proofs.YtnigjppddilpcaaGreatDoor
open Go Abs
set_option linter.unusedSimpArgs false
set_option linter.unusedVariables false
theorem aAY {n l h:Int}:fN n l h=some (inB n l h):=by unfold fN inB;rw [Bool.cond_eq_ite];by_cases h1:l≤n <;> simp [h1]
theorem aDa {s:List UInt8} (hs:s.length≤9223372036854775807):gT s=some (tC s):=(show gT s=lP s from rfl).trans (aFw hs)
theorem aGO {v:aD} (hv:cL v):qC v=some (aBl v):=by
 obtain ⟨k0,k1,k2,k3,k4⟩:=(dW v).1 hv
 unfold qC
 simp only [xM]
 by_cases h2:v.Items.length=2
 ·
  obtain ⟨a,b,hab⟩:=aKZ h2
  obtain ⟨_,_,_,hb,_⟩:=(dW b).1 (k3.2.2 b (by rw [hab];simp))
  have h0:gR v.Items (1:Int)=some b:=by rw [hab];rfl
  have hi2:aBl v=(decide (v.Kind=4)&&decide (b.Kind=4)&&b.Items.all oS):=by unfold aBl;rw [hab]
  have hC:dO (mJ b) (0:Int)=some (if b.Items.all oS then .go () else .done false):=by
   rw [kL b.Items.length (fun i=>oS (b.Items.getD i default)) false (fun i hi=>?_) ?_,pF b.Items oS]
   ·
    unfold mJ
    rw [cE,if_neg (by omega)]
   ·
    unfold mJ
    rw [cE,if_pos (by omega),eH hi,Option.bind_some,jW hi hb.1]
    simp only [List.getD_eq_getElem?_getD,List.getElem?_eq_getElem hi,Option.getD_some,xM,nN]
    generalize b.Items[i]=x
    by_cases h2:x.Items.length=2
    ·
     obtain ⟨c,d,hcd⟩:=aKZ h2
     have hp:oS x=(decide (x.Kind=4)&&decide (c.Kind=3)&&kW c.Text):=by unfold oS;rw [hcd]
     have h0:gR x.Items (0:Int)=some c:=by rw [hcd];rfl
     rw [h0,hp,h2]
     by_cases h1:x.Kind=4 <;> by_cases h3:c.Kind=3
     ·
      simp only [h1,h3,decide_true,Bool.and_self,Bool.not_true,cond_false,beq_self_eq_true,gd,if_true,Option.bind_some,Bool.true_and]
      cases kW c.Text <;> rfl
     ·
      simp [h1,h3,gd]
     ·
      simp [h1,h3,gd]
     ·
      simp [h1,h3,gd]
    ·
     have:oS x=false:=aDP h2
     simp [this,h2,gd]
  rw [h0,h2,hi2]
  by_cases h1:v.Kind=4 <;> by_cases h3:b.Kind=4
  ·
   simp only [h1,h3,decide_true,Bool.and_self,Bool.not_true,cond_false,beq_self_eq_true,gd,if_true,Option.bind_some,Bool.true_and,hC]
   cases b.Items.all oS <;> rfl
  ·
   simp [h1,h3,gd]
  ·
   simp [h1,h3,gd]
  ·
   simp [h1,h3,gd]
 ·
  have:aBl v=false:=aFy h2
  simp [this,h2,gd]
def aDD (k:Int):Int:=if k=7 then 1 else if k=12 then 2 else if k=14 then 3 else if k=16 then 4 else if k=19 then 5 else if k=23 then 6 else if k=18 then 7 else if k=27 then 8 else if k=28 then 9 else if k=29 then 10 else if k=30 then 11 else if k=31 then 12 else if k=32 then 13 else if k=35 then 14 else 0
theorem aJD {α:Type}{p:Prop} [Decidable p] {a b:α}:(if p then some a else some b)=some (if p then a else b):=by split <;> rfl
theorem aEm (k:Int):lH k=some (aDD k):=by
 unfold lH aDD
 simp only [cE,aJD]
theorem or3 {a b c:Bool}:(cond a (some a) (cond b (some b) (some c)))=some (a||b||c):=by cases a <;> cases b <;> rfl
theorem or2 {a b:Bool}:(cond a (some a) (some b))=some (a||b):=by cases a <;> rfl
theorem aDE {α:Type}{c:Bool}{a b:α}:cond c (some a) (some b)=some (cond c a b):=by cases c <;> rfl
def aD4 (k:Int):eS :=
 cond (decide (k=1)) ⟨false,false,true,false,true,true,true⟩ (cond (decide (k=2)) ⟨false,false,true,false,false,false,false⟩ (cond (decide (k=3)||decide (k=4)||decide (k=6)) ⟨false,true,false,false,false,false,false⟩
 (cond (decide (k=5)) ⟨false,true,false,true,false,false,false⟩ (cond (decide (k=8)) ⟨true,true,true,false,false,false,false⟩ (cond (decide (k=9)||decide (k=13)||decide (k=21)) ⟨true,true,false,false,false,false,true⟩
 (cond (decide (k=10)||decide (k=22)) ⟨true,true,false,false,true,false,true⟩ (cond (decide (k=11)) ⟨true,true,false,true,false,false,false⟩ (cond (decide (k=15)||decide (k=24)) ⟨true,true,false,false,false,false,false⟩
 (cond (decide (k=17)) ⟨false,false,false,false,true,true,true⟩ (cond (decide (k=20)) ⟨true,true,false,false,false,true,false⟩ (cond (decide (k=25)) ⟨true,true,false,false,true,false,false⟩
 (cond (decide (k=26)) ⟨false,false,false,false,false,true,false⟩ (cond (decide (k=33)) ⟨false,false,false,false,true,false,false⟩ ⟨false,false,false,false,false,false,false⟩)))))))))))))
theorem aLC (k:Int):rJ k=some (aD4 k):=by
 unfold rJ aD4
 simp only [or3,or2,Option.bind_some]
 simp only [aDE,Bool.or_assoc]
def aB4 (u:eS) (e:aV):Bool :=
 (u.seq_||decide (e.Seq=0))&&(u.ref_||decide (e.Ref=0))&&(u.n_||decide (e.N=0))&&(u.code_||decide (e.Code=0))&&(u.name_||decide (e.Name=[]))&&(u.key_||decide (e.Key=[]))&&(u.data_||oE e.Data aD8)&&wD e.Opts aC4
theorem aJs {u:eS}{e:aV} (h:dP e):kG u e=some (aB4 u e):=by
 have hd:cL e.Data:=h.2.2.2.2.2.2.2.2.2.1
 have ho:eO e.Opts:=h.2.2.2.2.2.2.2.2.2.2
 unfold kG aB4
 rw [show (aD.mk 0 0 [] [] [])=aD8 from rfl,show (bP.mk [] 0 0 0 0 0 0 0 0 [])=aC4 from rfl,yD hd,xR ho]
 simp only [Bool.cond_true_left,Bool.cond_false_right]
 generalize ((u.seq_||decide (e.Seq=0))&&(u.ref_||decide (e.Ref=0))&&(u.n_||decide (e.N=0))&&(u.code_||decide (e.Code=0))&&(u.name_||decide (e.Name=[]))&&(u.key_||decide (e.Key=[])))=b
 cases b
 ·
  simp [gd]
 ·
  cases u.data_
  ·
   cases oE e.Data aD8 <;> simp [gd]
  ·
   simp [gd]
noncomputable def aKI (e:aV) (k:Int):Bool:=decide (e.Code=0)&&(if k=2∨k=4 then inB e.Ref 1 2000 else decide (e.Ref=0))&&aAG ⟨k,e.Seq,e.Name,e.Key,e.N,e.Data,e.Opts⟩
theorem aNb {e:aV} (h:dP e) {k:Int} (hk:oG k):qY ⟨k,e.Seq,e.Name,e.Key,e.N,e.Data,e.Opts⟩:=by
 obtain ⟨h1,h2,h3,h4,h5,h6,h7,h8,h9,h10,h11⟩:=h
 exact ⟨hk,h4,h8,h9,h6,h10,h11⟩
theorem aEn {e:aV} (h:dP e) {k:Int} (hk:oG k):lI e k=some (aKI e k):=by
 unfold lI aKI
 rw [aAE (aNb h hk),aAY]
 generalize aAG _=c
 generalize inB e.Ref 1 2000=r
 by_cases hc:e.Code=0 <;> by_cases h2:k=2 <;> by_cases h4:k=4 <;> by_cases hr:e.Ref=0 <;> simp [hc,h2,h4,hr,gd] <;> cases r <;> simp
def aJX (e:aV):Bool :=
 cond (decide (e.Kind=1)) (kW e.Name&&tC e.Key&&inB e.N 0 4294967295&&aBl e.Data) (cond (decide (e.Kind=2)) (decide (1≤e.N)) (cond (decide (e.Kind=5)) (inB e.Code 1 30) (cond (decide (e.Kind=8)) (inB e.N 1 1000) (cond (decide (e.Kind=11)) (inB e.Code 1 4)
 (cond (decide (e.Kind=10)||decide (e.Kind=22)||decide (e.Kind=25)) (decide ((e.Name.length:Int)≤4096)) (cond (decide (e.Kind=33)) (decide ((e.Name.length:Int)≤64)) (cond (decide (e.Kind=17)) (kW e.Name&&tC e.Key) (cond (decide (e.Kind=26)) (tC e.Key) (cond (decide (e.Kind=20)) (xL e.Key).2 true)))))))))
theorem aMe {a b:Bool}:((gd (a==true) (some b)).bind fun (x:Bool)=>some (cond a x false))=some (a&&b):=by cases a <;> rfl
theorem aDe {e:aV} (h:dP e):kF e=some (aJX e):=by
 have hd:cL e.Data:=h.2.2.2.2.2.2.2.2.2.1
 have hk:okS e.Key:=h.2.2.2.2.2.2.2.2.1
 unfold okS at hk
 unfold kF aJX
 simp only [nN,aDa (show e.Key.length≤9223372036854775807 by omega),aAY,aGO hd,aCj (show e.Key.length≤140737488355328 by omega),or3,Option.bind_some]
 generalize kW e.Name=a
 generalize tC e.Key=b
 generalize inB e.N 0 4294967295=c
 generalize aBl e.Data=d
 have:((gd (a==true) (some b)).bind fun x4=>(gd ((cond a x4 false)==true) (some c)).bind fun x6=>(gd ((cond (cond a x4 false) x6 false)==true) (some d)).bind fun x8=>some (cond (cond (cond a x4 false) x6 false) x8 false))=some (a&&b&&c&&d):=by
  cases a <;> cases b <;> cases c <;> rfl
 rw [this]
 simp only [aMe]
 simp only [aDE,Bool.or_assoc]
noncomputable def nT (e:aV):Bool :=
 inB e.Kind 1 35&&inB e.ID 0 2000&&inB e.Time 0 1099511627776&&pB e.Data&&(if aDD e.Kind=0 then aB4 (aD4 e.Kind) e&&(!(aD4 e.Kind).seq_||inB e.Seq 1 2000)&&(!(aD4 e.Kind).ref_||inB e.Ref 1 2000)&&aJX e else aKI e (aDD e.Kind))
theorem aIz (k:Int):oG (aDD k):=by
 unfold aDD oG
 repeat' split
 all_goals omega
theorem vY {e:aV} (h:dP e):mH e=some (nT e):=by
 have hd:cL e.Data:=h.2.2.2.2.2.2.2.2.2.1
 unfold mH nT
 simp only [aAY,wW hd,aEm,aLC,aJs h,aEn h (aIz _),aDe h,Option.bind_some]
 cases inB e.Kind 1 35
 ·
  simp [gd]
 cases inB e.ID 0 2000
 ·
  simp [gd]
 cases inB e.Time 0 1099511627776
 ·
  simp [gd]
 cases pB e.Data
 ·
  simp [gd]
 simp only [Bool.not_true,cond_false,beq_self_eq_true,gd,if_true,Option.bind_some,Bool.true_and,uA]
 split
 ·
  rename_i h0
  generalize aD4 e.Kind=u
  cases aB4 u e
  ·
   simp
  ·
   cases u.seq_ <;> cases u.ref_ <;> cases inB e.Seq 1 2000 <;> cases inB e.Ref 1 2000 <;> simp
 ·
  simp
end Go.Proofs.YtnigjppddilpcaaGreatDoor
namespace Go.Proofs.YtnigjppddilpcaaGreatDoor
open Go Abs
set_option linter.unusedSimpArgs false
set_option linter.unusedVariables false
def wf {α:Type} (f:Int→α→Int):List α→Int→Int
 | [],a=>a
 | x :: l,a=>if 0≤a then wf f l (f a x) else a
end Go.Proofs.YtnigjppddilpcaaGreatDoor
namespace Go.Proofs.YtnigjppddilpcaaGreatDoor
open Go Abs
set_option linter.unusedSimpArgs false
set_option linter.unusedVariables false
set_option maxRecDepth 20000
def aHv (a b:aV):Bool:=decide (a.ID=b.ID)&&decide (a.Kind=b.Kind)&&decide (a.Time=b.Time)&&decide (a.Seq=b.Seq)&&decide (a.Ref=b.Ref)&&decide (a.N=b.N)&&decide (a.Code=b.Code)&&decide (a.Name=b.Name)&&decide (a.Key=b.Key)&&oE a.Data b.Data&&wD a.Opts b.Opts
theorem aIK {a b c:Bool}:((gd (a==true) (some b)).bind fun (x1:Bool)=>(gd ((cond a x1 false)==true) (some c)).bind fun (x3:Bool)=>some (cond (cond a x1 false) x3 false))=some (a&&b&&c):=by cases a <;> cases b <;> rfl
theorem aEH {a b:aV} (h:dP a):pN a b=some (aHv a b):=by
 have hd:cL a.Data:=h.2.2.2.2.2.2.2.2.2.1
 have ho:eO a.Opts:=h.2.2.2.2.2.2.2.2.2.2
 unfold pN aHv
 rw [aG6 hd,aAR ho,aIK]
 simp only [Bool.cond_false_right]
theorem aGN (a:aV):aHv a a=true:=by unfold aHv;simp [aHh,aG2]
end Go.Proofs.YtnigjppddilpcaaGreatDoor
namespace Go.Proofs.YtnigjppddilpcaaGreatDoor
open Go Abs
set_option linter.unusedSimpArgs false
set_option linter.unusedVariables false
end Go.Proofs.YtnigjppddilpcaaGreatDoor
namespace Go.Proofs.YtnigjppddilpcaaGreatDoor
open Go Abs
set_option linter.unusedSimpArgs false
set_option linter.unusedVariables false
end Go.Proofs.YtnigjppddilpcaaGreatDoor
namespace Go.Proofs.YtnigjppddilpcaaGreatDoor
open Go Abs
set_option linter.unusedSimpArgs false
set_option linter.unusedVariables false
end Go.Proofs.YtnigjppddilpcaaGreatDoor
namespace Go.Proofs.YtnigjppddilpcaaGreatDoor
open Go Abs
set_option linter.unusedSimpArgs false
set_option linter.unusedVariables false
end Go.Proofs.YtnigjppddilpcaaGreatDoor
namespace Go.Proofs.YtnigjppddilpcaaGreatDoor
open Go Abs
set_option linter.unusedSimpArgs false
set_option linter.unusedVariables false
set_option maxRecDepth 20000
end Go.Proofs.YtnigjppddilpcaaGreatDoor
namespace Go.Proofs.YtnigjppddilpcaaGreatDoor
open Go Abs
set_option linter.unusedSimpArgs false
set_option linter.unusedVariables false
set_option maxRecDepth 20000
end Go.Proofs.YtnigjppddilpcaaGreatDoor
namespace Go.Proofs.YtnigjppddilpcaaGreatDoor
open Go Abs
set_option linter.unusedSimpArgs false
set_option linter.unusedVariables false
def aNm (t:List UInt8) (ks:List (List UInt8)):Int:=ks.foldl (fun a k=>IntKind.i64.wrap (a+IntKind.i64.wrap (Int.tdiv (k.length:Int) 8))) (IntKind.i64.wrap (IntKind.i64.wrap (1+IntKind.i64.wrap (Int.tdiv (t.length:Int) 8))+(ks.length:Int)))
mutual
def s23:aD→Int
 | ⟨_,_,t,l,ks⟩=>aJ6 l (aNm t ks)
def aJ6:List aD→Int→Int
 | [],a=>a
 | x :: l,a=>aJ6 l (IntKind.i64.wrap (a+s23 x))
end
theorem aMD (v:aD):s23 v=v.Items.foldl (fun a x=>IntKind.i64.wrap (a+s23 x)) (aNm v.Text v.Keys):=by
 have key:∀ (l:List aD) (a:Int),aJ6 l a=l.foldl (fun a x=>IntKind.i64.wrap (a+s23 x)) a:=by
  intro l
  induction l with
  | nil=>intro a;simp [aJ6]
  | cons x l ih=>intro a;simp [aJ6,ih]
 cases v;simp only [s23,key]
theorem aLk:∀ (n:Nat) (v:aD),cL v→qW v≤n→mK n v=some (s23 v):=by
 intro n
 induction n with
 | zero=>intro v hv hn;have:=gV v;omega
 | succ n ih =>
  intro v hv hn
  have hh:=gV v
  obtain ⟨k0,k1,k2,k3,k4⟩:=(dW v).1 hv
  have hi1:=fun (i:Nat) (hi:i<v.Items.length)=>ih _ (k3.2.2 _ (List.getElem_mem hi)) (by have:=iZ (List.getElem_mem hi);omega)
  rw [mK,aMD]
  rw [xJ v.Keys (fun a k=>IntKind.i64.wrap (a+IntKind.i64.wrap (Int.tdiv (k.length:Int) 8))) _ (fun s i hi=>?_) (fun s=>?_),Option.bind_some]
  ·
   rw [xJ v.Items (fun a x=>IntKind.i64.wrap (a+s23 x)) _ (fun s i hi=>?_) (fun s=>?_),Option.bind_some]
   ·
    rfl
   ·
    unfold pR
    rw [cE,if_pos (by simp only;omega),eH hi,Option.bind_some,(hi1 i hi),Option.bind_some,jW hi k3.1]
   ·
    unfold pR
    rw [cE,if_neg (by simp only;omega)]
  ·
   unfold pQ
   rw [cE,if_pos (by simp only;omega),eH hi,Option.bind_some,jW hi k4.1]
  ·
   unfold pQ
   rw [cE,if_neg (by simp only;omega)]
theorem aIN {v:aD} (hv:cL v):yO v=some (s23 v):=qN (qW v) fun n hn=>aLk n v hv hn
theorem aM6 {α:Type}{c:Bool}{o:Option α} (h:∃ x,o=some x) [Inhabited α]:∃ x,gd c o=some x:=by
 cases c
 ·
  exact ⟨_,rfl⟩
 ·
  exact h
theorem aH0 {l:List aV} (h:uG 272 dP l):∃ b,oA l=some b∧(b=false→∀ e∈l,e.Name.length≤500∧e.Key.length≤500):=by
 unfold oA
 by_cases h1:(40:Int)<(l.length:Int)
 ·
  rw [decide_eq_true h1];exact ⟨true,rfl,fun hh=>by cases hh⟩
 ·
  rw [decide_eq_false h1,cond_false]
  have key:∃ x,dO (oM l) (0:Int)=some x∧(x=.done true∨(x=.go ()∧∀ e∈l,e.Name.length≤500∧e.Key.length≤500)):=by
   refine oP (fun t=>∃ i:Nat,t=(i:Int)∧i≤l.length∧∀ (j:Nat) (hj:j<l.length),j<i→l[j].Name.length≤500∧l[j].Key.length≤500) (fun t=>l.length - t.toNat) _ ?_ _ ⟨0,rfl,by omega,by omega⟩
   rintro _ ⟨i,rfl,hi,hprev⟩
   unfold oM
   by_cases hc:i<l.length
   ·
    have he:=h.2.2 _ (List.getElem_mem hc)
    have hf:uG 16 okS l[i].Opts.Fatal:=he.2.2.2.2.2.2.2.2.2.2.2.2.2.2.2.2.2.2.2
    obtain ⟨z,hz⟩:=aM6 (c:=((cond (decide ((500:Int)<(IntKind.wrap .i64 ((IntKind.wrap .i64 (((l[i].Name).length:Int)+((l[i].Key).length:Int)))+((l[i].Opts.Queue).length:Int))))) true (decide ((70:Int)<((l[i].Opts.Fatal).length:Int))))==false)) ⟨_,aIN he.2.2.2.2.2.2.2.2.2.1⟩
    rw [cE,if_pos (by omega),eH hc,Option.bind_some,hz,Option.bind_some]
    rcases Bool.eq_false_or_eq_true (cond (cond (decide ((500:Int)<(IntKind.wrap .i64 ((IntKind.wrap .i64 (((l[i].Name).length:Int)+((l[i].Key).length:Int)))+((l[i].Opts.Queue).length:Int))))) true (decide ((70:Int)<((l[i].Opts.Fatal).length:Int)))) true (decide ((200:Int)<z))) with hb | hb
    ·
     rw [hb,cond_true];exact .inr ⟨_,rfl,.inl rfl⟩
    ·
     have hle:l[i].Name.length≤500∧l[i].Key.length≤500:=by
      have o1:okS l[i].Name:=he.2.2.2.2.2.2.2.1
      have o2:okS l[i].Key:=he.2.2.2.2.2.2.2.2.1
      have o3:okS l[i].Opts.Queue:=he.2.2.2.2.2.2.2.2.2.2.1
      unfold okS at o1 o2 o3
      have w1:IntKind.wrap .i64 ((IntKind.wrap .i64 (((l[i].Name).length:Int)+((l[i].Key).length:Int)))+((l[i].Opts.Queue).length:Int))=((l[i].Name).length:Int)+((l[i].Key).length:Int)+((l[i].Opts.Queue).length:Int):=by
       rw [w64 (x:=((l[i].Name).length:Int)+((l[i].Key).length:Int)) (by omega) (by omega),w64 (by omega) (by omega)]
      rw [w1] at hb
      have:¬((500:Int)<((l[i].Name).length:Int)+((l[i].Key).length:Int)+((l[i].Opts.Queue).length:Int)):=fun hh=>by rw [decide_eq_true hh] at hb;simp at hb
      omega
     rw [hb,cond_false]
     have key2:∃ x,dO (oN l[i]) (0:Int)=some x∧(x=.done (.out (.done true))∨x=.go ()):=by
      refine oP (fun t=>∃ k:Nat,t=(k:Int)∧k≤l[i].Opts.Fatal.length) (fun t=>l[i].Opts.Fatal.length - t.toNat) _ ?_ _ ⟨0,rfl,by omega⟩
      rintro _ ⟨k,rfl,hk⟩
      unfold oN
      by_cases hc2:k<l[i].Opts.Fatal.length
      ·
       rw [cE,if_pos (by omega),eH hc2,Option.bind_some,cE]
       by_cases h3:(300:Int)<(l[i].Opts.Fatal[k].length:Int)
       ·
        rw [if_pos h3];exact .inr ⟨_,rfl,.inl rfl⟩
       ·
        rw [if_neg h3,jW hc2 hf.1]
        exact .inl ⟨_,rfl,⟨k+1,rfl,hc2⟩,by simp only [Int.toNat_natCast];omega⟩
      ·
       rw [cE,if_neg (by omega)];exact .inr ⟨_,rfl,.inr rfl⟩
     obtain ⟨x,hx,hx2⟩:=key2
     rw [hx,Option.bind_some]
     rcases hx2 with rfl | rfl
     ·
      exact .inr ⟨_,rfl,.inl rfl⟩
     ·
      simp only [Fl.next]
      rw [jW hc (by omega)]
      exact .inl ⟨_,rfl,⟨i+1,rfl,hc,fun j hj hji=>by rcases Nat.lt_succ_iff_lt_or_eq.1 hji with h1 | rfl;exact hprev j hj h1;exact hle⟩,by simp only [Int.toNat_natCast];omega⟩
   ·
    rw [cE,if_neg (by omega)];exact .inr ⟨_,rfl,.inr ⟨rfl,fun e he=>by obtain ⟨j,hj,rfl⟩:=List.mem_iff_getElem.1 he;exact hprev j hj (by omega)⟩⟩
  obtain ⟨x,hx,hx2⟩:=key
  rw [hx,Option.bind_some]
  rcases hx2 with rfl | ⟨rfl,hq⟩
  ·
   exact ⟨true,rfl,fun hh=>by cases hh⟩
  ·
   exact ⟨false,rfl,fun _=>hq⟩
theorem aIZ {l:List aV} (h:uG 272 dP l):∃ b,oA l=some b:=by
 obtain ⟨b,hb,_⟩:=aH0 h
 exact ⟨b,hb⟩
theorem aGZ {e:aV} (h:dP e):uG 272 dP [e]:=⟨by simp,by simp,fun x hx=>by rw [List.mem_singleton.1 hx];exact h⟩
end Go.Proofs.YtnigjppddilpcaaGreatDoor
namespace Go.Proofs.YtnigjppddilpcaaGreatDoor
open Go Abs
set_option linter.unusedSimpArgs false
set_option linter.unusedVariables false
theorem zQ {e:aV} (h:nT e=true):pB e.Data=true∧jU e.Opts=true:=by
 unfold nT at h
 simp only [Bool.and_eq_true] at h
 refine ⟨h.1.2,?_⟩
 have h2:=h.2
 split at h2
 ·
  simp only [Bool.and_eq_true] at h2
  have h3:=h2.1.1.1
  unfold aB4 at h3
  simp only [Bool.and_eq_true] at h3
  rw [aG3 h3.2]
  decide
 ·
  unfold aKI at h2
  simp only [Bool.and_eq_true] at h2
  exact (aEo h2.2).2
theorem aJO:∀ (n:Nat) (v:aD),qW v≤n→5*nsz v≤PV.bulkRow (aZ v):=by
 intro n
 induction n with
 | zero=>intro v h;have:=gV v;omega
 | succ n ih =>
  intro v h
  have hh:=gV v
  have key:∀ l:List aD,aAL l≤n→5*jB l≤PV.bulkRows (l.map aZ):=by
   intro l
   induction l with
   | nil=>intro _;simp [jB]
   | cons x l ihl =>
    intro hl
    simp only [aAL] at hl
    have a1:=ihl (by omega)
    have a2:=ih x (by omega)
    simp only [jB,List.map_cons,PV.bulkRows];omega
  have:=key v.Items (by omega)
  rw [aHg,aCm];omega
theorem aIx {v:aD} (hr:pB v=true) (hb:nsz v≤1000000):nsz v≤1200:=by
 obtain ⟨d1,d2⟩:=aHt (qW v) v (Nat.le_refl _) hb
 have hw:wth v=true:=by unfold pB at hr;simp only [Bool.and_eq_true] at hr;exact hr.1
 unfold wth at hw
 rw [d1,d2] at hw
 simp only [Bool.and_eq_true,decide_eq_true_eq] at hw
 omega
theorem aGQ {r:aG}{e:aV}{rest:List UInt8} (h:At r (uB e++rest)) (he:dP e) (hr:nT e=true) (h1:e.Name.length≤4096) (h2:e.Key.length≤4096) (hn:nsz e.Data≤1200):∃ r',kH r=some (e,r')∧At r' rest:=by
 obtain ⟨p1,p2⟩:=zQ hr
 obtain ⟨q1,q2,q3⟩:=aAq p1
 obtain ⟨k1,k2,k3,k4,k5,k6,k7,k8,k9,k10,k11⟩:=id he
 unfold uB kU at h
 rw [if_pos q3,if_pos p2] at h
 simp only [List.flatMap_cons,List.flatMap_nil,List.append_nil,List.append_assoc] at h
 have b:∀ {n:Int},oG n→(-9223372036854775808:Int)≤n∧n≤9223372036854775807:=fun h=>h
 obtain ⟨r1,a1,l1⟩:=oJ (low:=-9223372036854775808) (high:=9223372036854775807) h k1 (b k1).1 (b k1).2
 obtain ⟨r2,a2,l2⟩:=oJ (low:=-9223372036854775808) (high:=9223372036854775807) l1 k2 (b k2).1 (b k2).2
 obtain ⟨r3,a3,l3⟩:=oJ (low:=-9223372036854775808) (high:=9223372036854775807) l2 k3 (b k3).1 (b k3).2
 obtain ⟨r4,a4,l4⟩:=oJ (low:=-9223372036854775808) (high:=9223372036854775807) l3 k4 (b k4).1 (b k4).2
 obtain ⟨r5,a5,l5⟩:=oJ (low:=-9223372036854775808) (high:=9223372036854775807) l4 k5 (b k5).1 (b k5).2
 obtain ⟨r6,a6,l6⟩:=oJ (low:=-9223372036854775808) (high:=9223372036854775807) l5 k6 (b k6).1 (b k6).2
 obtain ⟨r7,a7,l7⟩:=oJ (low:=-9223372036854775808) (high:=9223372036854775807) l6 k7 (b k7).1 (b k7).2
 obtain ⟨r8,a8,l8⟩:=xE (most:=4096) l7 (by omega)
 obtain ⟨r9,a9,l9⟩:=xE (most:=4096) l8 (by omega)
 obtain ⟨r10,a10,l10⟩:=aAo l9 k10 p1 hn
 obtain ⟨r11,a11,l11⟩:=aFQ l10 k11 p2
 refine ⟨r11,?_,l11⟩
 unfold kH
 rw [a1,Option.bind_some,a2,Option.bind_some,a3,Option.bind_some,a4,Option.bind_some,a5,Option.bind_some,a6,Option.bind_some,a7,Option.bind_some,a8,Option.bind_some,a9,Option.bind_some,a10,Option.bind_some,a11,Option.bind_some]
 have hE:mH (aV.mk e.ID e.Kind e.Time e.Seq e.Ref e.N e.Code e.Name e.Key e.Data e.Opts)=some true:=by rw [← hr];exact vY he
 rw [pG l11]
 simp only [Option.bind_some,hE]
 simp [gd,pG l11]
end Go.Proofs.YtnigjppddilpcaaGreatDoor
namespace Go.Proofs.YtnigjppddilpcaaGreatDoor
open Go Abs
set_option linter.unusedSimpArgs false
set_option linter.unusedVariables false
end Go.Proofs.YtnigjppddilpcaaGreatDoor
namespace Go.Proofs.YtnigjppddilpcaaGreatDoor
open Go Abs
set_option linter.unusedSimpArgs false
set_option linter.unusedVariables false
end Go.Proofs.YtnigjppddilpcaaGreatDoor
namespace Go.Proofs.YtnigjppddilpcaaGreatDoor
open Go Abs
set_option linter.unusedSimpArgs false
set_option linter.unusedVariables false
end Go.Proofs.YtnigjppddilpcaaGreatDoor
namespace Go.Proofs.YtnigjppddilpcaaGreatDoor
open Go Abs
set_option linter.unusedSimpArgs false
set_option linter.unusedVariables false
end Go.Proofs.YtnigjppddilpcaaGreatDoor
namespace Go.Proofs.YtnigjppddilpcaaGreatDoor
open Go Abs
set_option linter.unusedSimpArgs false
set_option linter.unusedVariables false
def aJ1:BitVec 32:=3988292384#32
def sO (c:BitVec 32):BitVec 32:=(c >>> 1) ^^^ (if c.toNat % 2=1 then aJ1 else 0#32)
def aJm (c:BitVec 32):BitVec 32:=sO (sO (sO (sO (sO (sO (sO (sO c)))))))
def aAF (c:BitVec 32) (b:List UInt8):BitVec 32:=b.foldl (fun c x=>aJm (c ^^^ BitVec.ofNat 32 x.toNat)) c
def xU (b:List UInt8):BitVec 32:=4294967295#32 ^^^ aAF 4294967295#32 b
theorem aHB (a:BitVec 32):BitVec.ofInt 32 (a.toNat:Int)=a:=by rw [BitVec.ofInt_natCast];simp
theorem w32 {n:Nat} (h:n<4294967296):IntKind.u32.wrap (n:Int)=(n:Int):=by
 simp only [IntKind.wrap,IntKind.bits,IntKind.signed]
 simp
 omega
theorem x32 (a b:BitVec 32):eT .xor .u32 (a.toNat:Int) (b.toNat:Int)=((a ^^^ b).toNat:Int):=by
 show IntKind.u32.wrap ((BitVec.ofInt 32 (a.toNat:Int) ^^^ BitVec.ofInt 32 (b.toNat:Int)).toNat:Int)=_
 rw [aHB,aHB,w32 (a ^^^ b).isLt]
theorem a32 (a:BitVec 32):eT .and .u32 (a.toNat:Int) (1:Int)=((a.toNat % 2:Nat):Int):=by
 show IntKind.u32.wrap ((BitVec.ofInt 32 (a.toNat:Int) &&& BitVec.ofInt 32 ((1#32:BitVec 32).toNat:Int)).toNat:Int)=_
 rw [aHB,aHB,BitVec.toNat_and,show (1#32:BitVec 32).toNat=1 from rfl,Nat.and_one_is_mod,w32 (by omega)]
theorem aMJ (c:BitVec 32):(c >>> 1).toNat=c.toNat / 2:=by simp [BitVec.toNat_ushiftRight,Nat.shiftRight_eq_div_pow]
theorem fdn (n k:Nat) {c:Int} (h:c=(k:Int)):Int.fdiv (n:Int) c=((n / k:Nat):Int):=by
 subst h;rw [Int.fdiv_eq_ediv_of_nonneg _ (by omega),Int.natCast_ediv]
theorem wO {c:BitVec 32}{i:Nat} (hi:i<8):kR ((c.toNat:Int),(i:Int))=some (.next (((sO c).toNat:Int),((i+1:Nat):Int))):=by
 unfold kR
 rw [cE,if_pos (by simp only;omega),jW (n:=8) hi (by omega),a32]
 have h1:Int.fdiv (c.toNat:Int) (2 ^ (min (Int.toNat (1:Int)) (IntKind.bits .u32)))=((c >>> 1).toNat:Int):=by rw [aMJ];exact fdn _ 2 (by decide)
 have h2:IntKind.u32.wrap ((3988292384:Int)*((c.toNat % 2:Nat):Int))=((if c.toNat % 2=1 then aJ1 else 0#32:BitVec 32).toNat:Int):=by
  rcases Nat.mod_two_eq_zero_or_one c.toNat with h | h
  ·
   rw [h];rfl
  ·
   rw [h];rfl
 simp only [h1,h2,x32]
 rfl
theorem aM3 {c:BitVec 32}:kR ((c.toNat:Int),((8:Nat):Int))=some (.out (c.toNat:Int)):=by unfold kR;rw [cE,if_neg (by simp only;omega)]
theorem aKM (c:BitVec 32):dO kR ((c.toNat:Int),(0:Int))=some ((aJm c).toNat:Int):=by
 show dO kR ((c.toNat:Int),((0:Nat):Int))=_
 rw [oB (wO (by omega)),oB (wO (by omega)),oB (wO (by omega)),oB (wO (by omega)),oB (wO (by omega)),oB (wO (by omega)),oB (wO (by omega)),oB (wO (by omega))]
 exact aFG aM3
theorem aL5 (c:BitVec 32) (x:UInt8):eT .xor .u32 (c.toNat:Int) (IntKind.wrap .u32 ((x.toNat:Nat):Int))=((c ^^^ BitVec.ofNat 32 x.toNat).toNat:Int):=by
 have hx:=x.toNat_lt
 have h2:(BitVec.ofNat 32 x.toNat).toNat=x.toNat:=by rw [BitVec.toNat_ofNat];omega
 rw [w32 (by omega),← h2,x32,h2]
theorem aJM {b:List UInt8}{c:BitVec 32}{body:Int × Int→Option (cD (Int × Int) Int)} (h:∀ (c:BitVec 32) (i:Nat) (hi:i<b.length),body ((c.toNat:Int),(i:Int))=some (.next (((aJm (c ^^^ BitVec.ofNat 32 b[i].toNat)).toNat:Int),((i+1:Nat):Int))))
  (hout:∀ s,body (s,(b.length:Int))=some (.out s)):dO body ((c.toNat:Int),(0:Int))=some ((aAF c b).toNat:Int):=by
 refine xK (fun s=>∃ i:Nat,s.2=(i:Int)∧i≤b.length∧s.1=((aAF c (b.take i)).toNat:Int)) (fun s=>b.length - s.2.toNat) (fun _=>((aAF c b).toNat:Int)) ?_ _ ⟨0,rfl,by omega,by simp [aAF]⟩
 rintro ⟨s,i0⟩ ⟨i,hi0,hi,hs⟩
 simp only at hi0 hs
 subst hi0 hs
 by_cases hlt:i<b.length
 ·
  refine .inl ⟨_,h _ i hlt,⟨i+1,rfl,hlt,?_⟩,by simp;omega,rfl⟩
  rw [List.take_succ_eq_append_getElem hlt,aAF,aAF,List.foldl_append]
  rfl
 ·
  obtain rfl:i=b.length:=by omega
  rw [hout,List.take_length]
  exact .inr rfl
theorem aKP (c:BitVec 32):IntKind.wrap .i64 (eT .xor .u32 (4294967295:Int) (c.toNat:Int))=((4294967295#32 ^^^ c).toNat:Int):=by
 rw [show (4294967295:Int)=((4294967295#32:BitVec 32).toNat:Int) from rfl,x32,w64 (by omega) (by have:=(4294967295#32 ^^^ c).isLt;omega)]
theorem aFv {b:List UInt8} (hb:b.length≤9223372036854775807):wA b=some ((xU b).toNat:Int):=by
 unfold wA
 rw [show (4294967295:Int)=((4294967295#32:BitVec 32).toNat:Int) from rfl,aJM (b:=b) (fun c i hi=>?_) (fun s=>?_),Option.bind_some]
 ·
  exact congrArg some (aKP _)
 ·
  unfold sQ
  rw [cE,if_pos (by simp only;omega),eH hi,Option.bind_some,aL5,aKM,Option.bind_some,jW hi hb]
 ·
  unfold sQ
  rw [cE,if_neg (by simp only;omega)]
def cb (c:BitVec 32) (k:Nat):Nat:=c.toNat / 2 ^ k % 256
def jN (b:List UInt8):List UInt8:=[UInt8.ofNat (cb (xU b) 24),UInt8.ofNat (cb (xU b) 16),UInt8.ofNat (cb (xU b) 8),UInt8.ofNat (cb (xU b) 0)]
theorem w8n (n:Nat):IntKind.u8.wrap (n:Int)=((n % 256:Nat):Int):=by
 simp only [IntKind.wrap,IntKind.bits,IntKind.signed]
 simp
theorem vX {b:List UInt8} (hb:b.length≤9223372036854775807):gU b=some (yG.mk (cb (xU b) 24:Nat) (cb (xU b) 16:Nat) (cb (xU b) 8:Nat) (cb (xU b) 0:Nat)):=by
 unfold gU
 rw [aFv hb,Option.bind_some]
 have e1:Int.fdiv ((xU b).toNat:Int) (2 ^ (min (Int.toNat (24:Int)) (IntKind.bits .i64)))=(((xU b).toNat / 2 ^ 24:Nat):Int):=fdn _ _ (by decide)
 have e2:Int.fdiv ((xU b).toNat:Int) (2 ^ (min (Int.toNat (16:Int)) (IntKind.bits .i64)))=(((xU b).toNat / 2 ^ 16:Nat):Int):=fdn _ _ (by decide)
 have e3:Int.fdiv ((xU b).toNat:Int) (2 ^ (min (Int.toNat (8:Int)) (IntKind.bits .i64)))=(((xU b).toNat / 2 ^ 8:Nat):Int):=fdn _ _ (by decide)
 rw [e1,e2,e3,w8n,w8n,w8n,w8n]
 simp [cb]
theorem nY (c:BitVec 32) (k:Nat):cb c k<256:=Nat.mod_lt _ (by omega)
end Go.Proofs.YtnigjppddilpcaaGreatDoor
namespace Go.Proofs.YtnigjppddilpcaaGreatDoor
open Go Abs
set_option linter.unusedSimpArgs false
set_option linter.unusedVariables false
theorem aC9 {α:Type} (f:α→List UInt8) (l:List α) (i:Nat):((l.take i).flatMap f).length≤(l.flatMap f).length:=by
 have:l.flatMap f=(l.take i).flatMap f++(l.drop i).flatMap f:=by rw [← List.flatMap_append,List.take_append_drop]
 rw [this,List.length_append];omega
theorem aFF {α τ:Type} (l:List α) (p:α→Bool) (f:α→List UInt8) (z:τ) (a0:List UInt8) {body:List UInt8 × Int→Option (cD (List UInt8 × Int) (Fl τ (List UInt8)))}
  (h:∀ (i:Nat) (hi:i<l.length),body (a0++(l.take i).flatMap f,(i:Int))=some (if p l[i] then .next (a0++(l.take i).flatMap f++f l[i],((i+1:Nat):Int)) else .out (.done z)))
  (hout:∀ a,body (a,(l.length:Int))=some (.out (.go a))):dO body (a0,(0:Int))=some (if l.all p then .go (a0++l.flatMap f) else .done z):=by
 refine xK (fun s=>∃ i:Nat,s=(a0++(l.take i).flatMap f,(i:Int))∧i≤l.length∧∀ (j:Nat) (hj:j<l.length),j<i→p l[j]=true) (fun s=>l.length - s.2.toNat) (fun _=>(if l.all p then Fl.go (a0++l.flatMap f) else Fl.done z:Fl τ (List UInt8))) ?_ _ ⟨0,by simp,by omega,by omega⟩
 rintro s ⟨i,rfl,hi,hp⟩
 by_cases hlt:i<l.length
 ·
  rw [h i hlt]
  by_cases hpi:p l[i]=true
  ·
   rw [if_pos hpi]
   refine .inl ⟨_,rfl,⟨i+1,?_,hlt,fun j hj hji=>by rcases Nat.lt_succ_iff_lt_or_eq.1 hji with h1 | rfl;exact hp j hj h1;exact hpi⟩,by simp;omega,rfl⟩
   rw [List.take_succ_eq_append_getElem hlt,List.flatMap_append,List.append_assoc]
   simp
  ·
   rw [if_neg hpi,if_neg (fun ha=>hpi (List.all_eq_true.1 ha _ (List.getElem_mem hlt)))]
   exact .inr rfl
 ·
  obtain rfl:i=l.length:=by omega
  rw [hout,List.take_length,if_pos (List.all_eq_true.2 fun x hx=>by obtain ⟨j,hj,rfl⟩:=List.mem_iff_getElem.1 hx;exact hp j hj hj)]
  exact .inr rfl
noncomputable def kQ (l:List aV):List UInt8:=jJ l.length++l.flatMap uB
theorem aIh {l:List aV} (h:uG 272 dP l) (hb:PV.bulkRows (l.map bZ)≤1048576) (hn:l.length≤2000):(kQ l).length≤850000000:=by
 have key:∀ m:List aV,(∀ e∈m,dP e)→PV.bulkRows (m.map bZ)≤1048576→(m.flatMap uB).length≤400000*m.length+20*PV.bulkRows (m.map bZ):=by
  intro m
  induction m with
  | nil=>intro _ _;simp
  | cons e m ih =>
   intro hm hb
   simp only [List.map_cons,PV.bulkRows] at hb ⊢
   have a1:=ih (fun x hx=>hm x (by simp [hx])) (by omega)
   have a2:=aIl (hm e (by simp)) (by omega)
   simp only [List.flatMap_cons,List.length_append,List.length_cons];omega
 have h1:=key l h.2.2 hb
 have h2:=qX (n:=l.length) h.1
 unfold kQ
 simp only [List.length_append];omega
theorem xF {n:Nat} (h:n<256):jP (n:Int)=some (UInt8.ofNat n):=by
 unfold jP
 rw [if_pos (by omega)]
 rfl
def bok (l:List aV):Prop:=uG 272 dP l∧(∀ e∈l,aBD e)∧(l.length≤2000→(kQ l).length≤900000000)
noncomputable def kE (l:List aV):List UInt8 × Int:=if 2000<l.length then ([],6) else if l.all nT then (kQ l++jN (kQ l),0) else ([],11)
theorem aKx {l:List aV} (hb:(kQ l).length≤900000000) (i:Nat):(jJ l.length++(l.take i).flatMap uB).length≤900000000:=by
 have:=aC9 uB l i
 unfold kQ at hb
 simp only [List.length_append] at hb ⊢;omega
theorem zF {l:List aV} (h:bok l):gN l=some (kE l):=by
 obtain ⟨h1,h2,h3⟩:=h
 unfold gN kE
 by_cases hn:2000<l.length
 ·
  rw [decide_eq_true (by omega),cond_true,if_pos hn]
 ·
  have hb:=h3 (by omega)
  rw [decide_eq_false (by omega),cond_false,if_neg hn,yQ (by simp) ⟨by omega,by omega⟩,Option.bind_some,List.nil_append,
   aFF l nT uB (([]:List UInt8),(11:Int)) (jJ l.length) (fun i hi=>?_) (fun a=>?_),Option.bind_some]
  ·
   cases hr:l.all nT
   ·
    simp [Fl.next]
   ·
    simp only [if_true,Fl.next]
    have hb':(jJ l.length++l.flatMap uB).length≤900000000:=hb
    rw [vX (by omega),Option.bind_some]
    simp only
    rw [xF (nY _ _),Option.bind_some,xF (nY _ _),Option.bind_some,xF (nY _ _),Option.bind_some,xF (nY _ _),Option.bind_some,lQ (by simp only [List.length_cons,List.length_nil];omega)]
    rfl
  ·
   unfold kV
   have he:=h1.2.2 _ (List.getElem_mem hi)
   have ha:=aKx hb i
   have hs:=h2 _ (List.getElem_mem hi)
   rw [cE,if_pos (by simp only;omega),eH hi,Option.bind_some,vY he,Option.bind_some]
   cases hr:nT l[i]
   ·
    simp
   ·
    rw [Bool.not_true,cond_false,(aFs (b:=[]) he hs (by simp)).1,Option.bind_some,List.nil_append,lQ (by have:=aJr he hs;simp only;omega),Option.bind_some,jW hi h1.1]
    simp
  ·
   unfold kV
   rw [cE,if_neg (by simp only;omega)]
end Go.Proofs.YtnigjppddilpcaaGreatDoor
namespace Go.Proofs.YtnigjppddilpcaaGreatDoor
open Go Abs
set_option linter.unusedSimpArgs false
set_option linter.unusedVariables false
theorem aL4 {r:aG} (h:At r []):jH r=some 0:=by
 obtain ⟨b,a,h1,h2,rfl,h3⟩:=h
 have:¬a<b.length:=fun hh=>by
  have:=congrArg List.length h3
  simp only [List.length_drop,List.length_nil] at this;omega
 unfold jH dS
 simp only [Option.bind_some,decide_true,Bool.not_true,cond_false]
 rw [cE,if_neg (by omega)]
def aJu (e:aV):Prop:=nT e=true∧e.Name.length≤4096∧e.Key.length≤4096∧nsz e.Data≤1200
theorem aHK (B:List UInt8) (n:Nat) (hn:n=B.length):List.take n (B++jN B)=B∧List.drop n (B++jN B)=jN B:=by subst hn;simp
theorem uF {n:Nat} (h:n<256):(n:Int)=((UInt8.ofNat n).toNat:Int):=by
 rw [UInt8.toNat_ofNat']
 omega
theorem aEa {l:List aV} (h:uG 272 dP l) (hn:l.length≤2000) (hb:(kQ l).length≤900000000) (he:∀ e∈l,aJu e):dY (kQ l++jN (kQ l))=some (l,0):=by
 have h4:(jN (kQ l)).length=4:=rfl
 have hlen:(kQ l++jN (kQ l)).length=(kQ l).length+4:=by rw [List.length_append,h4]
 have hw:IntKind.wrap .i64 (((kQ l++jN (kQ l)).length:Int) - 4)=((kQ l).length:Int):=by rw [hlen,w64 (by omega) (by omega)];omega
 unfold dY
 rw [hw,decide_eq_false (by omega),cond_false,Int.toNat_natCast,(aHK _ _ rfl).1,(aHK _ _ rfl).2,aHJ (by omega),Option.bind_some,vX (by omega),Option.bind_some,aEK (by omega),Option.bind_some]
 rw [show aD2 4 (jN (kQ l))=some () from rfl,Option.bind_some]
 rw [show gR (jN (kQ l)) (0:Int)=some (UInt8.ofNat (cb (xU (kQ l)) 24)) from rfl,Option.bind_some,show gR (jN (kQ l)) (1:Int)=some (UInt8.ofNat (cb (xU (kQ l)) 16)) from rfl,Option.bind_some,
  show gR (jN (kQ l)) (2:Int)=some (UInt8.ofNat (cb (xU (kQ l)) 8)) from rfl,Option.bind_some,show gR (jN (kQ l)) (3:Int)=some (UInt8.ofNat (cb (xU (kQ l)) 0)) from rfl,Option.bind_some]
 simp only
 rw [decide_eq_true (uF (nY _ _)),decide_eq_true (uF (nY _ _)),decide_eq_true (uF (nY _ _)),decide_eq_true (uF (nY _ _))]
 simp only [Bool.and_self,Bool.not_true,cond_false]
 rw [Option.bind_some]
 obtain ⟨r,o1,o2⟩:=aKD (b:=kQ l) (by omega)
 rw [o1,Option.bind_some]
 obtain ⟨r1,a1,l1⟩:=oJ (low:=0) (high:=2000) (n:=(l.length:Int)) (rest:=l.flatMap uB) o2 ⟨by omega,by omega⟩ (by omega) (by omega)
 rw [a1,Option.bind_some]
 have key:∃ x,dO (iB ((l.length:Int),r1)) (([]:List aV),(0:Int),r1)=some x∧x.1=l∧At x.2 []:=by
  refine oP (fun s=>∃ i:Nat,s.1=l.take i∧s.2.1=(i:Int)∧i≤l.length∧At s.2.2 ((l.drop i).flatMap uB)) (fun s=>l.length - s.2.1.toNat) _ ?_ _ ⟨0,rfl,rfl,by omega,l1⟩
  rintro ⟨acc,i0,r2⟩ ⟨i,ha,hi0,hi,hr⟩
  simp only at ha hi0 hr
  subst ha hi0
  unfold iB
  by_cases hlt:i<l.length
  ·
   obtain ⟨q1,q2,q3,q4⟩:=he _ (List.getElem_mem hlt)
   rw [xN uB l i hlt] at hr
   obtain ⟨r3,d1,d2⟩:=aGQ hr (h.2.2 _ (List.getElem_mem hlt)) q1 q2 q3 q4
   rw [cE,if_pos (by simp only;omega)]
   simp only
   rw [d1,Option.bind_some,lQ (by simp only [List.length_take,List.length_cons,List.length_nil];omega),Option.bind_some,pG d2,Option.bind_some]
   refine .inl ⟨_,rfl,⟨i+1,?_,jW hlt (by omega),hlt,d2⟩,by simp only;rw [jW hlt (by omega)];simp only [Int.toNat_natCast];omega⟩
   simp only
   rw [List.take_succ_eq_append_getElem hlt]
  ·
   obtain rfl:i=l.length:=by omega
   rw [cE,if_neg (by simp only;omega)]
   refine .inr ⟨_,rfl,List.take_length,?_⟩
   rw [List.drop_length] at hr
   exact hr
 obtain ⟨⟨m,r4⟩,k1,k2,k3⟩:=key
 simp only at k2 k3
 subst k2
 rw [k1,Option.bind_some,Option.bind_some]
 simp only
 rw [aL4 k3]
 simp
theorem aEk {l:List aV} (h:uG 272 dP l) (hb:PV.bulkRows (l.map bZ)≤1048576):bok l :=
 ⟨h,fun e he=>aGP (h.2.2 e he) (by have:=aB0 (row:=bZ) he;omega),fun hn=>Nat.le_trans (aIh h hb hn) (by omega)⟩
theorem aKF {l:List aV} (hb:PV.bulkRows (l.map bZ)≤1048576) (hr:l.all nT=true) (hs:∀ e∈l,e.Name.length≤500∧e.Key.length≤500):∀ e∈l,aJu e:=fun e he=>by
 have h1:=List.all_eq_true.1 hr e he
 have h2:=aB0 (row:=bZ) he
 have h3:=aJO _ e.Data (Nat.le_refl _)
 have h4:=aGL e
 obtain ⟨h5,h6⟩:=hs e he
 exact ⟨h1,by omega,by omega,aIx (zQ h1).1 (by omega)⟩
end Go.Proofs.YtnigjppddilpcaaGreatDoor
namespace Go.Proofs.YtnigjppddilpcaaGreatDoor
open Go Abs
set_option linter.unusedSimpArgs false
set_option linter.unusedVariables false
end Go.Proofs.YtnigjppddilpcaaGreatDoor
namespace Go.Proofs.YtnigjppddilpcaaGreatDoor
open Go Abs
set_option linter.unusedSimpArgs false
set_option linter.unusedVariables false
noncomputable def unP (B:List UInt8):Option ((List aV) × Int):=(pP B).bind fun (x23:aG)=>(((dG (0:Int) (2000:Int) x23).bind fun (x28:(Int × aG))=>((dO (iB x28) ((([]:(List aV)),(0:Int),x28.2))):Option ((List aV) × aG)).bind fun (x30:((List aV) × aG))=>(some (x30.1,x30.2))):Option ((List aV) × aG)).bind fun (x25:((List aV) × aG))=>((jH x25.2).bind fun (x46:Int)=>cond (!decide (x46=(0:Int))) (some (([]:(List aV)),x46)) (some (x25.1,(0:Int))))
end Go.Proofs.YtnigjppddilpcaaGreatDoor
namespace Go.Proofs.YtnigjppddilpcaaGreatDoor
open Go Abs
set_option linter.unusedSimpArgs false
set_option linter.unusedVariables false
theorem aDF (c:BitVec 32):(sO c).getLsbD 31=decide (c.toNat % 2=1):=by
 unfold sO
 rw [BitVec.getLsbD_xor,BitVec.getLsbD_ushiftRight,BitVec.getLsbD_of_ge c (1+31) (by omega)]
 by_cases h:c.toNat % 2=1
 ·
  rw [if_pos h,decide_eq_true h];decide
 ·
  rw [if_neg h,decide_eq_false h];decide
theorem sG {a b c:BitVec 32} (h:a ^^^ c=b ^^^ c):a=b:=by
 have:=congrArg (· ^^^ c) h
 simpa [BitVec.xor_assoc] using this
theorem nZ {c d:BitVec 32} (h:sO c=sO d):c=d:=by
 have h1:=aDF c
 rw [h,aDF] at h1
 have h2:(d.toNat % 2=1)↔(c.toNat % 2=1):=by simpa using h1
 have h3:c >>> 1=d >>> 1:=by
  unfold sO at h
  by_cases h4:c.toNat % 2=1
  ·
   rw [if_pos h4,if_pos (h2.2 h4)] at h;exact sG h
  ·
   rw [if_neg h4,if_neg (fun h5=>h4 (h2.1 h5))] at h;exact sG h
 have h4:=congrArg BitVec.toNat h3
 rw [aMJ,aMJ] at h4
 exact BitVec.eq_of_toNat_eq (by omega)
theorem aFo {c d:BitVec 32} (h:aJm c=aJm d):c=d :=
 nZ (nZ (nZ (nZ (nZ (nZ (nZ (nZ h)))))))
theorem aFp:∀ (b:List UInt8) {c d:BitVec 32},aAF c b=aAF d b→c=d
 | [],c,d,h=>h
 | x :: b,c,d,h=>by
  simp only [aAF,List.foldl_cons] at h
  exact sG (aFo (aFp b h))
theorem aKJ {x y:UInt8} (h:x≠y) (l r:List UInt8) (c:BitVec 32):aAF c (l++x :: r)≠aAF c (l++y :: r):=fun he=>by
 simp only [aAF,List.foldl_append,List.foldl_cons] at he
 have h1:=aFo (aFp r he)
 rw [BitVec.xor_comm,BitVec.xor_comm _ (BitVec.ofNat 32 y.toNat)] at h1
 have h2:=congrArg BitVec.toNat (sG h1)
 have hx:=x.toNat_lt
 have hy:=y.toNat_lt
 rw [BitVec.toNat_ofNat,BitVec.toNat_ofNat,Nat.mod_eq_of_lt (by omega),Nat.mod_eq_of_lt (by omega)] at h2
 exact h (UInt8.toNat_inj.1 h2)
theorem aL7 {x y:UInt8} (h:x≠y) (l r:List UInt8):xU (l++x :: r)≠xU (l++y :: r):=fun he=>by
 unfold xU at he
 rw [BitVec.xor_comm,BitVec.xor_comm 4294967295#32] at he
 exact aKJ h l r _ (sG he)
theorem aL6 {c d:BitVec 32} (h1:cb c 24=cb d 24) (h2:cb c 16=cb d 16) (h3:cb c 8=cb d 8) (h4:cb c 0=cb d 0):c=d:=by
 have hc:=c.isLt
 have hd:=d.isLt
 simp only [cb,show (2:Nat) ^ 24=16777216 from rfl,show (2:Nat) ^ 16=65536 from rfl,show (2:Nat) ^ 8=256 from rfl,show (2:Nat) ^ 0=1 from rfl] at h1 h2 h3 h4
 exact BitVec.eq_of_toNat_eq (by omega)
theorem aBB {n:Nat}{x:UInt8} (hn:n<256):UInt8.ofNat n=x↔(n:Int)=(x.toNat:Int):=by
 constructor
 ·
  rintro rfl
  rw [UInt8.toNat_ofNat'];omega
 ·
  intro h
  have:n=x.toNat:=by omega
  rw [this]
  exact UInt8.ofNat_toNat
theorem aKh {b c:List UInt8} (h:jN b=jN c):xU b=xU c:=by
 unfold jN at h
 simp only [List.cons.injEq,and_true] at h
 obtain ⟨h1,h2,h3,h4⟩:=h
 have k:∀ {m n:Nat},m<256→n<256→UInt8.ofNat m=UInt8.ofNat n→m=n:=fun {m n} hm hn h=>by
  have:=congrArg UInt8.toNat h
  rw [UInt8.toNat_ofNat',UInt8.toNat_ofNat'] at this
  omega
 exact aL6 (k (nY _ _) (nY _ _) h1) (k (nY _ _) (nY _ _) h2) (k (nY _ _) (nY _ _) h3) (k (nY _ _) (nY _ _) h4)
theorem aLi {B:List UInt8}{i:Nat}{x:UInt8} (hi:i<(B++jN B).length) (hx:(B++jN B)[i]≠x):jN (((B++jN B).set i x).take B.length)≠((B++jN B).set i x).drop B.length:=by
 by_cases h:i<B.length
 ·
  rw [List.set_append_left _ _ h]
  have hl:(B.set i x).length=B.length:=List.length_set
  have e1:(B.set i x++jN B).take B.length=B.set i x:=by rw [← hl,List.take_left]
  have e2:(B.set i x++jN B).drop B.length=jN B:=by rw [← hl,List.drop_left]
  rw [e1,e2]
  intro he
  rw [List.getElem_append_left h] at hx
  have h1:B=B.take i++B[i] :: B.drop (i+1):=by rw [← List.drop_eq_getElem_cons h,List.take_append_drop]
  have h2:B.set i x=B.take i++x :: B.drop (i+1):=List.set_eq_take_append_cons_drop.trans (by rw [if_pos h])
  have h3:=aKh he
  rw [h2] at h3
  conv at h3=>rhs;rw [h1]
  exact aL7 (Ne.symm hx) _ _ h3
 ·
  have h:B.length≤i:=by omega
  rw [List.set_append_right _ _ h,List.take_left,List.drop_left]
  intro he
  rw [List.getElem_append_right h] at hx
  have hi':i - B.length<(jN B).length:=by rw [List.length_append] at hi;omega
  have h1:((jN B).set (i - B.length) x)[i - B.length]'(by rw [List.length_set];exact hi')=x:=List.getElem_set_self ..
  apply hx
  rw [← h1]
  congr 1
end Go.Proofs.YtnigjppddilpcaaGreatDoor

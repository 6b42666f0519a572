/- Plain laws: what the functions compute, with no program in sight. -/
import Derived.Test.YtnigjppddilpcaaGreatDoorGEPP2
import Derived.Test.YtnigjppddilpcaaGreatDoorGEF14
import Derived.Test.YtnigjppddilpcaaGreatDoorGEF16
import Derived.Test.YtnigjppddilpcaaGreatDoorAbsU
import Derived.Test.YtnigjppddilpcaaGreatDoorGEF1
import Derived.Test.YtnigjppddilpcaaGreatDoorGEF8
import Derived.Test.YtnigjppddilpcaaGreatDoorGEPP0
import Derived.Test.YtnigjppddilpcaaGreatDoorGESh
import Derived.Test.YtnigjppddilpcaaGreatDoorGEPP1
import Derived.Test.YtnigjppddilpcaaGreatDoorGEF2
import Derived.Test.YtnigjppddilpcaaGreatDoorGEF3
import Derived.Test.YtnigjppddilpcaaGreatDoorGEF4
import Derived.Test.YtnigjppddilpcaaGreatDoorGEF6
import Derived.Test.YtnigjppddilpcaaGreatDoorGEF9
import Derived.Test.YtnigjppddilpcaaGreatDoorGEF17
import Derived.Test.YtnigjppddilpcaaGreatDoorGEF10
import Derived.Test.YtnigjppddilpcaaGreatDoorGEF0
import Derived.Test.YtnigjppddilpcaaGreatDoorGEF5
import Derived.Test.YtnigjppddilpcaaGreatDoorGEF11
import Derived.Test.YtnigjppddilpcaaGreatDoorGEF12
import Derived.Test.YtnigjppddilpcaaGreatDoorGEF18
import Derived.Test.YtnigjppddilpcaaGreatDoorGEF15
namespace Go.Proofs.YtnigjppddilpcaaGreatDoor
open Go Abs
set_option linter.unusedSimpArgs false
set_option linter.unusedVariables false
theorem aCk {c:bL} (hr:mF c=true):c.Name.length≤4096∧c.Key.length≤64:=by
 unfold mF at hr
 simp only [aM,dJ,fM] at hr
 obtain ⟨⟨⟨⟨⟨⟨⟨_,hb⟩,_⟩,_⟩,_⟩,hk⟩,hn⟩,_⟩:=hr
 constructor
 ·
  rcases hn with hn | hn
  ·
   unfold aDh at hb
   simp only [aM,dJ,hn,bG] at hb
   have:=hb.1.1.1.1.2
   simp at this
   rw [this];simp
  ·
   by_cases h12:c.Kind=12
   ·
    rw [aQ h12] at hn
    simp only [lZ,fM,kU] at hn
    omega
   ·
    rw [aN h12] at hn
    have:=aDJ hn
    omega
 ·
  rcases hk with hk | hk
  ·
   unfold aDh at hb
   simp only [aM,dJ,hk,bG] at hb
   have:=hb.1.1.1.2
   simp at this
   rw [this];simp
  ·
   unfold mW at hk
   simp only [aM,bG] at hk
   exact hk.1.2
theorem aIo {c:bL} (h:iZ c) (hr:mF c=true) (hn:nsz c.Data≤1200):(aCj c).length≤11000000∧(tD c.Data).length≤10100000:=by
 obtain ⟨s1,s2⟩:=aCk hr
 obtain ⟨r1,r2⟩:=zI hr
 obtain ⟨k0,k1,k2,k3,k4,k5,k6⟩:=h
 have a0:=lO k0
 have a1:=lO k1
 have a2:=tU (s:=c.Name) (by omega)
 have a3:=tU (s:=c.Key) (by omega)
 have a4:=lO k4
 have a5:=aLr (xC c.Data) c.Data (eN _) k5 (rT r1).1
 have a6:=aG5 k6 r2
 unfold aCj
 simp only [aG]
 omega
theorem aFv {b:List UInt8}{c:bL} (h:iZ c) (hr:mF c=true) (hn:nsz c.Data≤1200) (hb:b.length≤50000000000):tF b c=some (b++aCj c)∧aBH b c=some (b++aCj c):=by
 obtain ⟨r1,r2⟩:=zI hr
 obtain ⟨s1,s2⟩:=aCk hr
 have hl:=aIo h hr hn
 constructor
 ·
  unfold tF
  rw [aAG (by omega),xG h,hr]
  obtain ⟨k0,k1,k2,k3,k4,k5,k6⟩:=h
  unfold aCj at hl ⊢
  simp only [aG] at hl
  simp only [aA,bW,bF,bT]
  rw [aBd (by omega) k0,aA,aBd (by first | omega | (simp only [aG];omega)) k1,aA,aKX (by first | omega | (simp only [aG];omega)) (by omega),aA,aKX (by first | omega | (simp only [aG];omega)) (by omega),aA,
   aBd (by first | omega | (simp only [aG];omega)) k4,aA,aB3 k5 (by first | omega | (simp only [aG];omega)),(rT r1).2.2,aA]
  rw [aNL k6 r2 (by simp only [bT,aG];omega)]
  simp
 ·
  unfold aBH
  rw [uM (by simp;omega),aDp h,hr]
  obtain ⟨k0,k1,k2,k3,k4,k5,k6⟩:=h
  unfold aCj at hl ⊢
  simp only [aG] at hl
  simp only [aA,bW,bF,bT,hH]
  rw [aB2 (by omega) k0,aA,aB2 (by first | omega | (simp only [aG];omega)) k1,aA,aFH (by first | omega | (simp only [aG];omega)) (by omega),aA,aFH (by first | omega | (simp only [aG];omega)) (by omega),aA,
   aB2 (by first | omega | (simp only [aG];omega)) k4,aA,aEq k5 (by first | omega | (simp only [aG];omega)),(rT r1).2.2,aA]
  rw [aDQ k6 (by simp only [bT,aG];omega),r2]
  simp
theorem aOw {r:aP}{c:bL}{rest:List UInt8} (h:At r (aCj c++rest)) (hc:iZ c) (hr:mF c=true) (hn:nsz c.Data≤1200):∃ r',tE r=some (c,r')∧At r' rest:=by
 obtain ⟨c1,c2⟩:=zI hr
 obtain ⟨s1,s2⟩:=aCk hr
 obtain ⟨k0,k1,k2,k3,k4,k5,k6⟩:=id hc
 unfold aCj at h
 simp only [cX] at h
 obtain ⟨r0,a0,l0⟩:=yJ h k0
 obtain ⟨r1,a1,l1⟩:=yJ l0 k1
 obtain ⟨r2,a2,l2⟩:=aBq (most:=4096) l1 (by omega)
 obtain ⟨r3,a3,l3⟩:=aBq (most:=4096) l2 (by omega)
 obtain ⟨r4,a4,l4⟩:=yJ l3 k4
 obtain ⟨r5,a5,l5⟩:=aAY l4 k5 c1 hn
 obtain ⟨r6,a6,l6⟩:=aKU l5 k6 c2
 unfold tE
 rw [a0]
 simp only [aA]
 rw [a1]
 simp only [aA]
 rw [a2]
 simp only [aA]
 rw [a3]
 simp only [aA]
 rw [a4]
 simp only [aA]
 rw [a5]
 simp only [aA]
 rw [a6]
 simp only [aA]
 have e:(⟨c.Kind,c.Seq,c.Name,c.Key,c.N,c.Data,c.Opts⟩:bL)=c:=rfl
 rw [wF l6,e,xG hc,hr]
 refine ⟨r6,?_,l6⟩
 simp only [aA,bS,eH,gd,bT,bW,cW,bF]
 rw [wF l6]
 rfl
theorem aKa {α:Type}{row:α→List PV}:∀ {l:List α}{x:α},x∈l→PV.bulkRow (row x)≤PV.bulkRows (l.map row)
 | [],x,h=>by simp at h
 | y :: l,x,h=>by
  simp only [iC,PV.bulkRows]
  rcases dY.1 h with rfl | h
  ·
   omega
  ·
   have:=aKa (row:=row) h;omega
theorem aMz (v:aE):PV.bulkRow (cH v)=v.Text.length+PV.bulkRows (v.Items.map cH)+PV.bulkRows (v.Keys.map jE)+5:=by
 rw [hF]
 simp only [fZ,PV.bulkRow,PV.bulk,PV.ls]
 omega
def wf {α:Type} (f:Int→α→Int):List α→Int→Int
 | [],a=>a
 | x :: l,a=>if 0≤a then wf f l (f a x) else a
set_option maxRecDepth 20000
def aD9 (a b:kN):Bool:=decide (a.ID=b.ID)&&decide (a.Kind=b.Kind)&&decide (a.Time=b.Time)&&decide (a.Seq=b.Seq)&&decide (a.Ref=b.Ref)&&decide (a.N=b.N)&&decide (a.Code=b.Code)&&decide (a.Name=b.Name)&&decide (a.Key=b.Key)&&qW a.Data b.Data&&aAo a.Opts b.Opts
theorem aIH {a b c:Bool}:((gd (a==true) (some b)).bind fun (x1:Bool)=>(gd ((cond a x1 false)==true) (some c)).bind fun (x3:Bool)=>some (cond (cond a x1 false) x3 false))=some (a&&b&&c):=by cases a <;> cases b <;> rfl
theorem aHR {a b:kN} (h:aAl a):aAf a b=some (aD9 a b):=by
 have hd:dF a.Data:=h.2.2.2.2.2.2.2.2.2.1
 have ho:gO a.Opts:=h.2.2.2.2.2.2.2.2.2.2
 unfold aAf aD9
 rw [sE hd,uS ho,aIH]
 simp only [Bool.cond_false_right]
theorem aJg {a b:kN} (h:aAl a):aAv a b=some (aD9 a b):=by
 have hd:dF a.Data:=h.2.2.2.2.2.2.2.2.2.1
 have ho:gO a.Opts:=h.2.2.2.2.2.2.2.2.2.2
 unfold aAv aD9
 rw [xO hd,rE ho,aIH]
 simp only [Bool.cond_false_right]
def aST (t:List UInt8) (ks:List (List UInt8)):Int:=ks.foldl (fun a k=>IntKind.i64.wrap (a+IntKind.i64.wrap (Int.tdiv (k.length:Int) 8))) (IntKind.i64.wrap (IntKind.i64.wrap (1+IntKind.i64.wrap (Int.tdiv (t.length:Int) 8))+(ks.length:Int)))
mutual
def s23:aE→Int
 | ⟨_,_,t,l,ks⟩=>aSh l (aST t ks)
def aSh:List aE→Int→Int
 | [],a=>a
 | x :: l,a=>aSh l (IntKind.i64.wrap (a+s23 x))
end
theorem aKL:∀ (n:Nat) (v:aE),xC v≤n→5*nsz v≤PV.bulkRow (cH v):=by
 intro n
 induction n with
 | zero=>intro v h;have:=lD v;omega
 | succ n ih =>
  intro v h
  have hh:=lD v
  have key:∀ l:List aE,aEX l≤n→5*oJ l≤PV.bulkRows (l.map cH):=by
   intro l
   induction l with
   | nil=>intro _;simp [oJ]
   | cons x l ihl =>
    intro hl
    simp only [aEX] at hl
    have a1:=ihl (by omega)
    have a2:=ih x (by omega)
    simp only [oJ,iC,PV.bulkRows];omega
  have:=key v.Items (by omega)
  rw [aMz,aE0];omega
theorem aE1 {v:aE} (hr:rG v=true) (hb:nsz v≤1000000):nsz v≤1200:=by
 obtain ⟨d1,d2⟩:=aMK (xC v) v (eN _) hb
 have hw:wth v=true:=by unfold rG at hr;simp only [aM] at hr;exact hr.1
 unfold wth at hw
 rw [d1,d2] at hw
 simp only [aM,bG] at hw
 omega
theorem aQ9 (c:bL):PV.bulkRow (cH c.Data)≤PV.bulkRow (dM c):=by
 rw [aMz]
 simp only [dM,PV.bulkRow,PV.bulk,PV.ls]
 omega
theorem aRx (q:bO):q.Workflow.length+q.Run.length+q.ID.length+q.Name.length+q.Parent.length+PV.bulkRow (cH q.Data)+PV.bulkRows (q.Commands.map dM)≤PV.bulkRow (iT q):=by
 rw [aMz]
 simp only [iT,PV.bulkRow,PV.bulk,PV.ls]
 omega
def qsm (q:bO):Prop:=q.Workflow.length≤2000000∧q.Run.length≤2000000∧q.ID.length≤2000000∧q.Name.length≤2000000∧q.Parent.length≤2000000∧nsz q.Data≤1000000∧∀ c∈q.Commands,nsz c.Data≤1000000
theorem aPi {q:bO} (hb:PV.bulkRow (iT q)≤1048576):qsm q:=by
 have h1:=aRx q
 have h2:=aKL _ q.Data (eN _)
 refine ⟨by omega,by omega,by omega,by omega,by omega,by omega,fun c hc=>?_⟩
 have h3:=aKa (row:=dM) hc
 have h4:=aQ9 c
 have h5:=aKL _ c.Data (eN _)
 omega
def zF (q:bO):List (List UInt8):=[q.Workflow,q.Run,q.ID,q.Name]
def zD (q:bO):List Int:=[q.Token,q.Event,q.Seq,q.N]
def aFS (q:bO):List UInt8:=oI q.Kind++oI q.Time++(zF q).flatMap rJ++(zD q).flatMap oI++tD q.Data++oI q.Commands.length++q.Commands.flatMap aCj++rJ q.Parent
theorem zL {q:bO} (h:vK q=true):rG q.Data=true∧q.Commands.length≤200∧q.Commands.all mF=true:=by
 unfold vK at h
 simp only [aM,bG] at h
 obtain ⟨_,_,_,h4,_,_,_,_,_,_,_,h12,h13,_⟩:=h
 exact ⟨h4,h12,h13⟩
theorem aPg {q:bO} (h:iO q) (hs:qsm q) (hr:vK q=true):∀ c∈q.Commands,iZ c∧mF c=true∧nsz c.Data≤1200:=fun c hc=>by
 obtain ⟨r1,r2,r3⟩:=zL hr
 have hcr:=bM.1 r3 c hc
 exact ⟨h.2.2.2.2.2.2.2.2.2.2.2.2.1.2.2 c hc,hcr,aE1 (zI hcr).1 (hs.2.2.2.2.2.2 c hc)⟩
theorem aPh {q:bO} (h:iO q) (hs:qsm q) (hr:vK q=true):((zF q).flatMap rJ).length≤9000000∧((zD q).flatMap oI).length≤40∧(tD q.Data).length≤10100000∧(q.Commands.flatMap aCj).length≤2200000000∧(∀ n∈zD q,sC n):=by
 obtain ⟨r1,r2,r3⟩:=zL hr
 have hcm:=aPg h hs hr
 obtain ⟨k0,k1,k2,k3,k4,k5,k6,k7,k8,k9,k10,k11,k12,k13⟩:=h
 obtain ⟨s1,s2,s3,s4,s5,s6,s7⟩:=hs
 have a1:=tU (s:=q.Workflow) (by omega)
 have a2:=tU (s:=q.Run) (by omega)
 have a3:=tU (s:=q.ID) (by omega)
 have a4:=tU (s:=q.Name) (by omega)
 have b1:=lO k6
 have b2:=lO k7
 have b3:=lO k8
 have b4:=lO k9
 have c1:=aLr (xC q.Data) q.Data (eN _) k10 (rT r1).1
 have c2:=aE1 r1 s6
 have d1:=aI0 aCj 11000000 q.Commands (fun c hc=>by obtain ⟨e1,e2,e3⟩:=hcm c hc;exact (aIo e1 e2 e3).1)
 refine ⟨?_,?_,by omega,by omega,?_⟩
 ·
  simp only [zF,iY,oZ,aG,jD];omega
 ·
  simp only [zD,iY,oZ,aG,jD];omega
 ·
  simp only [zD,dY,List.not_mem_nil,or_false]
  rintro n (rfl | rfl | rfl | rfl) <;> assumption
noncomputable def aJa (q:bO):List UInt8 × Int:=if vK q then (if 65536<(aFS q).length then ([],6) else (aFS q,0)) else ([],3)
theorem aG9 {q:bO} (h:iO q) (hs:qsm q):pO q=some (aJa q)∧aBI q=some (aJa q):=by
 cases hr:vK q
 ·
  unfold pO aBI aJa
  rw [xP h,aDq h,← aIC,hr]
  exact ⟨rfl,rfl⟩
 ·
  obtain ⟨r1,r2,r3⟩:=zL hr
  have hcm:=aPg h hs hr
  obtain ⟨l1,l2,l3,l4,l5⟩:=aPh h hs hr
  have hh:=h
  obtain ⟨k0,k1,k2,k3,k4,k5,k6,k7,k8,k9,k10,k11,k12,k13⟩:=h
  obtain ⟨s1,s2,s3,s4,s5,s6,s7⟩:=hs
  have b1:=lO k0
  have b2:=lO k1
  have okn:sC (q.Commands.length:Int):=⟨by omega,by omega⟩
  have b3:=lO okn
  have b4:=tU (s:=q.Parent) (by omega)
  have hst:∀ s∈zF q,s.length≤2000000:=by
   simp only [zF,dY,List.not_mem_nil,or_false]
   rintro s (rfl | rfl | rfl | rfl) <;> assumption
  have fin:∀ x:List UInt8,x=aFS q→cond (decide ((65536:Int)<(x.length:Int))) (some (([]:List UInt8),(6:Int))) (some (x,(0:Int)))=some (aJa q):=fun x hx=>by
   subst hx
   unfold aJa
   rw [hr,aQ rfl,cU]
   by_cases hl:65536<(aFS q).length
   ·
    rw [aQ (by omega),aQ hl]
   ·
    rw [aN (by omega),aN hl]
  constructor
  ·
   unfold pO
   rw [xP hh,hr]
   simp only [aA,bW,bF]
   rw [aBd (by simp) k0,aA,hH,aBd (by omega) k1,aA,
    rC 1000000000000 (zF q) rJ _ (by simp only [aG];omega) (fun s i hi hs=>?_) (fun s=>?_),aA,
    rC 1000000000000 (zD q) oI _ (by simp only [aG];omega) (fun s i hi hs=>?_) (fun s=>?_),aA,
    aB3 k10 (by simp only [aG];omega),(rT r1).2.2,aQ rfl,aA,aBd (by simp only [aG];omega) okn,aA,
    rC 40000000000 q.Commands aCj _ (by simp only [aG];omega) (fun s i hi hs=>?_) (fun s=>?_),aA,aKX (by simp only [aG];omega) (by omega),aA]
   ·
    exact fin _ (by unfold aFS;simp only [cX])
   ·
    unfold sZ
    obtain ⟨e1,e2,e3⟩:=hcm _ (aX hi)
    simp only [aG] at hs
    rw [cU,aQ (by simp only;omega),gJ hi,aA,(aFv e1 e2 e3 (by simp only;omega)).1,aA,nJ hi hh.2.2.2.2.2.2.2.2.2.2.2.2.1.1]
   ·
    unfold sZ
    rw [cU,aN (by simp only;omega)]
   ·
    unfold sY
    simp only [aG] at hs
    rw [cU,aQ (by simp only [zD] at hi;simp only;omega),show nF [q.Token,q.Event,q.Seq,q.N] (i:Int)=some (zD q)[i] from gJ hi,aA,aBd (by simp only;omega) (l5 _ (aX hi)),aA,nJ hi (by simp [zD])]
   ·
    unfold sY
    rw [cU,aN (by simp [zD])]
   ·
    unfold sX
    simp only [aG] at hs
    have:=hst _ (aX hi)
    rw [cU,aQ (by simp only [zF] at hi;simp only;omega),show nF [q.Workflow,q.Run,q.ID,q.Name] (i:Int)=some (zF q)[i] from gJ hi,aA,aKX (by simp only;omega) (by omega),aA,nJ hi (by simp [zF])]
   ·
    unfold sX
    rw [cU,aN (by simp [zF])]
  ·
   unfold aBI
   rw [aDq hh,← aIC,hr]
   simp only [aA,bW,bF]
   rw [aB2 (by simp) k0,aA,hH,aB2 (by omega) k1,aA,
    rC 1000000000000 (zF q) rJ _ (by simp only [aG];omega) (fun s i hi hs=>?_) (fun s=>?_),aA,
    rC 1000000000000 (zD q) oI _ (by simp only [aG];omega) (fun s i hi hs=>?_) (fun s=>?_),aA,
    aEq k10 (by simp only [aG];omega),(rT r1).2.2,aQ rfl,aA,aB2 (by simp only [aG];omega) okn,aA,
    rC 40000000000 q.Commands aCj _ (by simp only [aG];omega) (fun s i hi hs=>?_) (fun s=>?_),aA,aFH (by simp only [aG];omega) (by omega),aA]
   ·
    exact fin _ (by unfold aFS;simp only [cX])
   ·
    unfold yW
    obtain ⟨e1,e2,e3⟩:=hcm _ (aX hi)
    simp only [aG] at hs
    rw [cU,aQ (by simp only;omega),gJ hi,aA,(aFv e1 e2 e3 (by simp only;omega)).2,aA,nJ hi hh.2.2.2.2.2.2.2.2.2.2.2.2.1.1]
   ·
    unfold yW
    rw [cU,aN (by simp only;omega)]
   ·
    unfold yV
    simp only [aG] at hs
    rw [cU,aQ (by simp only [zD] at hi;simp only;omega),show nF [q.Token,q.Event,q.Seq,q.N] (i:Int)=some (zD q)[i] from gJ hi,aA,aB2 (by simp only;omega) (l5 _ (aX hi)),aA,nJ hi (by simp [zD])]
   ·
    unfold yV
    rw [cU,aN (by simp [zD])]
   ·
    unfold yU
    simp only [aG] at hs
    have:=hst _ (aX hi)
    rw [cU,aQ (by simp only [zF] at hi;simp only;omega),show nF [q.Workflow,q.Run,q.ID,q.Name] (i:Int)=some (zF q)[i] from gJ hi,aA,aFH (by simp only;omega) (by omega),aA,nJ hi (by simp [zF])]
   ·
    unfold yU
    rw [cU,aN (by simp [zF])]
def zV:aE:=⟨0,0,[],[],[]⟩
theorem aQT:dF zV:=by
 refine (gD _).2 ⟨?_,?_,?_,?_,?_⟩ <;> simp [zV,sC,okS,aDa]
def zP:dB:=⟨[],0,0,0,0,0,0,0,0,[]⟩
theorem aQS:gO zP:=by
 simp [gO,zP,sC,okS,aDa]
def zC:bL:=⟨0,0,[],[],0,zV,zP⟩
def zE:kN:=kN.mk (0:Int) (0:Int) (0:Int) (0:Int) (0:Int) (0:Int) (0:Int) ([]:List UInt8) ([]:List UInt8) zV zP
def aPK (r r':aP) (x:List UInt8):Prop:=∀ rest,At r' rest→At r (x++rest)
theorem aPK.trans {r s t:aP}{x y:List UInt8} (h:aPK r s x) (k:aPK s t y):aPK r t (x++y):=fun rest ht=>by rw [cX];exact h _ (k _ ht)
theorem aNN {l:List UInt8}{low high:Int} (h:(pC l low high).2.2≠0):(pC l low high).1=0:=by
 unfold pC at h ⊢
 split
 ·
  rfl
 ·
  rename_i w n hs
  rw [hs] at h
  simp only at h ⊢
  split
  ·
   rfl
  ·
   rename_i hc
   rw [aN hc] at h
   exact absurd rfl h
theorem aOQ {e e':Int}{r r':aP}{w w':iF}{x low high:Int} (hl:aGw e r w) (hl':aGw e' r' w') (h:gH low high r=some (x,r')) (he:e'≠0):x=0:=by
 obtain ⟨b,a,hb,ha,rfl,rfl⟩:=hl
 by_cases h0:e=0
 ·
  subst h0
  rw [aGQ ha hb] at h
  cases h
  obtain ⟨b',a',_,_,h3,_⟩:=hl'
  unfold aA9 at h3
  simp only [aP.mk.injEq] at h3
  have:=h3.2.2.1
  exact aNN (by omega)
 ·
  have:gH low high ⟨b,a,e,true⟩=some (0,⟨b,a,e,true⟩):=by unfold gH;rw [aD7];simp [h0]
  rw [this] at h
  cases h
  rfl
theorem le_any {e:Int}{r:aP}{w:iF} (h:aGw e r w):∃ x e' r' w',jN r=some (x,r')∧aHi w=some (x,w')∧aGw e' r' w'∧sC x∧(e'≠0→x=0):=by
 obtain ⟨x,e',r',w',h1,h2,h3,h4,h5,h6⟩:=aOX (-9223372036854775808) 9223372036854775807 h
 exact ⟨x,e',r',w',by unfold jN;rw [h1];rfl,by unfold aHi;rw [h2];rfl,h3,h4,fun he=>aOQ h h3 h1 he⟩
def zQ:bO:=⟨0,0,[],[],[],[],0,0,0,0,zV,zP,[],[]⟩
theorem aQR (a:BitVec 32):BitVec.ofInt 32 (a.toNat:Int)=a:=by rw [BitVec.ofInt_natCast];simp
theorem w32 {n:Nat} (h:n<4294967296):IntKind.u32.wrap (n:Int)=(n:Int):=by
 simp only [IntKind.wrap,IntKind.bits,IntKind.signed]
 simp
 omega
theorem x32 (a b:BitVec 32):kE .xor .u32 (a.toNat:Int) (b.toNat:Int)=((a ^^^ b).toNat:Int):=by
 show IntKind.u32.wrap ((BitVec.ofInt 32 (a.toNat:Int) ^^^ BitVec.ofInt 32 (b.toNat:Int)).toNat:Int)=_
 rw [aQR,aQR,w32 (a ^^^ b).isLt]
theorem aQ7 {r:aP} (h:At r []):oX r=some 0:=by
 obtain ⟨b,a,h1,h2,rfl,h3⟩:=h
 have:¬a<b.length:=fun hh=>by
  have:=mT List.length h3
  simp only [kJ,jD] at this;omega
 unfold oX gG
 simp only [aA,bS,bW,bF]
 rw [cU,aN (by omega)]
theorem aDD {r:aP}{n:Int}{rest:List UInt8} (h:At r (oI n++rest)) (hn:sC n):∃ r',jN r=some (n,r')∧At r' rest:=by
 obtain ⟨r',h1,h2⟩:=aDE (low:=-9223372036854775808) (high:=9223372036854775807) h hn hn.1 hn.2
 exact ⟨r',by unfold jN;rw [h1];rfl,h2⟩
theorem aGC {r:aP}{s rest:List UInt8} (h:At r (rJ s++rest)) (hs:s.length≤4096):∃ r',pD r=some (s,r')∧At r' rest:=by
 obtain ⟨r',h1,h2⟩:=aBq (most:=4096) h (by omega)
 exact ⟨r',by unfold pD;rw [h1];rfl,h2⟩
theorem aNk {r:aP}{s:List UInt8} (h:At r s) (hs:s≠[]):oX r=some 3:=by
 obtain ⟨b,a,h1,h2,rfl,rfl⟩:=h
 have:a<b.length:=oP fun hh=>hs (mY (by omega))
 unfold oX gG
 simp only [aA,bS,bW,bF]
 rw [cU,aQ (by omega)]
theorem aIX {r:aP}{l:List bL}{rest:List UInt8} (h:At r (oI l.length++(l.flatMap aCj++rest))) (hl:l.length≤200) (hc:∀ c∈l,iZ c∧mF c=true∧nsz c.Data≤1200):∃ r',gR 200 r=some (l,r')∧At r' rest:=by
 obtain ⟨r1,a1,l1⟩:=aDD h ⟨by omega,by omega⟩
 have hin:inB (l.length:Int) 0 200=true:=by unfold inB;simp;omega
 have hg:(gd ((decide ((0:Int)=(0:Int)))==true) (some true)).bind (fun (b:Bool)=>cond (cond (decide ((0:Int)=(0:Int))) (!b) false) ((lW (3:Int) r1).bind fun (x:aP)=>some x) (some r1))=some r1:=by simp [gd]
 have key:∃ x,fX (iA ((l.length:Int),r1)) (([]:List bL),(0:Int),r1)=some x∧x.1=l∧At x.2 rest:=by
  refine vB (fun s=>∃ i:Nat,s.1=l.take i∧s.2.1=(i:Int)∧i≤l.length∧At s.2.2 ((l.drop i).flatMap aCj++rest)) (fun s=>l.length - s.2.1.toNat) _ ?_ _ ⟨0,rfl,rfl,by omega,l1⟩
  rintro ⟨acc,i0,r2⟩ ⟨i,ha,hi0,hi,hr⟩
  simp only at ha hi0 hr
  subst ha hi0
  unfold iA
  simp only
  by_cases hlt:i<l.length
  ·
   rw [aC6 aCj l i hlt,cX] at hr
   obtain ⟨r3,d1,d2⟩:=(by obtain ⟨q1,q2,q3⟩:=hc _ (aX hlt);exact aOw hr q1 q2 q3)
   rw [cU,aQ (by omega),wF hr,aA]
   simp only [bS,cW,aA,Fl.next]
   rw [d1,aA,uM (by simp only [mM,eV,jD];omega),aA]
   refine .inl ⟨_,rfl,⟨i+1,?_,nJ hlt (by omega),hlt,d2⟩,by simp only;rw [nJ hlt (by omega)];simp only [iW];omega⟩
   simp only
   rw [eT hlt]
  ·
   obtain rfl:i=l.length:=by omega
   rw [cU,aN (by omega)]
   refine .inr ⟨_,rfl,kK,?_⟩
   rw [List.drop_length] at hr
   exact hr
 obtain ⟨⟨m,r4⟩,k1,k2,k3⟩:=key
 simp only at k2 k3
 subst k2
 unfold gR
 rw [a1,aA]
 simp only
 rw [wF l1,aA,aA6,hin,hg,aA,k1,aA]
 exact ⟨r4,rfl,k3⟩
theorem aMW {s:List UInt8} (h:aDR s=true):s.length≤4096:=by
 unfold aDR at h
 simp only [dJ,bG] at h
 rcases h with h | h
 ·
  rw [h];simp
 ·
  rcases aFA s with ⟨v,h1,h2,h3,h4⟩ | ⟨h1,h2⟩
  ·
   rw [← h3,aHn h1]
   have:=aD8 18 v.toNat (by omega)
   simp only [eV];omega
  ·
   rw [h2] at h;cases h
theorem idK:∀ i:Fin 18,(rL (i.1:Int)).id_=true→i.1=1∨i.1=2∨i.1=3∨i.1=5∨i.1=15:=by decide
theorem aSe {q:bO} (hr:vK q=true):q.Workflow.length≤4096∧q.Run.length≤4096∧q.ID.length≤4096∧q.Name.length≤4096∧q.Parent.length≤4096∧q.Opts=zP:=by
 unfold vK at hr
 simp only [aM,bG] at hr
 obtain ⟨h1,h2,h3,h4,h5,h6,h7,h8,h9,h10,h11,h12,h13,h14,h15⟩:=hr
 unfold yP at h3
 simp only [aM,dJ,bG] at h3
 obtain ⟨⟨⟨⟨⟨⟨⟨⟨⟨b1,b2⟩,b3⟩,b4⟩,b5⟩,b6⟩,b7⟩,b8⟩,b9⟩,b10⟩:=h3
 have hi:∀ {s:List UInt8},mW s=true→s.length≤64:=fun h=>by
  unfold mW at h
  simp only [aM,bG] at h
  exact h.1.2
 refine ⟨?_,aMW h6,?_,?_,?_,aG6 b10⟩
 ·
  split at h5
  ·
   simp only [bG] at h5;rw [h5];simp
  ·
   have:=hi h5;omega
 ·
  rcases b1 with b1 | b1
  ·
   unfold inB at h1
   simp only [aM,bG] at h1
   have hk:=idK ⟨q.Kind.toNat,by omega⟩
   simp only at hk
   rw [show ((q.Kind.toNat:Nat):Int)=q.Kind by omega] at hk
   have hk:=hk b1
   unfold aBA at h15
   by_cases hk15:q.Kind=15
   ·
    rw [aQ hk15] at h15
    simp only [aM] at h15
    exact aMW h15.1
   ·
    rw [aN hk15,aN (by omega),aN (by omega),aN (by omega),b1] at h15
    simp only [aM,bW,nC] at h15
    have:=hi h15.1
    omega
  ·
   rw [b1];simp
 ·
  rcases b2 with b2 | b2
  ·
   unfold aBA at h15
   split at h15
   ·
    simp only [aM,bG] at h15;omega
   ·
    split at h15
    ·
     simp only [bG] at h15;omega
    ·
     split at h15
     ·
      simp only [bG] at h15;omega
     ·
      split at h15
      ·
       have:=hi h15;omega
      ·
       rw [b2] at h15
       simp only [aM,bW,nC] at h15
       have:=aDJ h15.2
       omega
  ·
   rw [b2];simp
 ·
  unfold aHX at h11
  simp only [aM,dJ,bG] at h11
  rcases h11 with h | h
  ·
   rw [h];simp
  ·
   omega
theorem aJj {q:bO}{s:List UInt8} (h:iO q) (hs:qsm q) (hr:vK q=true) (hl:(aFS q++s).length≤1000000000):tQ (aFS q++s)=some (if s=[] then (q,0) else (zQ,3)):=by
 obtain ⟨l1,l2,l3,l4,l5,l6⟩:=aSe hr
 obtain ⟨p1,p2,p3⟩:=zL hr
 have hcm:=aPg h hs hr
 have hh:=h
 obtain ⟨k0,k1,k2,k3,k4,k5,k6,k7,k8,k9,k10,k11,k12,k13⟩:=h
 obtain ⟨r,o1,o2⟩:=aPR hl
 have he:aFS q++s=oI q.Kind++(oI q.Time++(rJ q.Workflow++(rJ q.Run++(rJ q.ID++(rJ q.Name++(oI q.Token++(oI q.Event++(oI q.Seq++(oI q.N++(tD q.Data++(oI q.Commands.length++(q.Commands.flatMap aCj++(rJ q.Parent++s))))))))))))):=by
  unfold aFS zF zD
  simp only [iY,oZ,List.append_nil,cX]
 rw [he] at o2
 obtain ⟨r1,a1,t1⟩:=aDD o2 k0
 obtain ⟨r2,a2,t2⟩:=aDD t1 k1
 obtain ⟨r3,a3,t3⟩:=aGC t2 l1
 obtain ⟨r4,a4,t4⟩:=aGC t3 l2
 obtain ⟨r5,a5,t5⟩:=aGC t4 l3
 obtain ⟨r6,a6,t6⟩:=aGC t5 l4
 obtain ⟨r7,a7,t7⟩:=aDD t6 k6
 obtain ⟨r8,a8,t8⟩:=aDD t7 k7
 obtain ⟨r9,a9,t9⟩:=aDD t8 k8
 obtain ⟨r10,a10,t10⟩:=aDD t9 k9
 obtain ⟨r11,a11,t11⟩:=aAY t10 k10 p1 (aE1 p1 hs.2.2.2.2.2.1)
 obtain ⟨r12,a12,t12⟩:=aIX t11 p2 hcm
 obtain ⟨r13,a13,t13⟩:=aGC t12 l5
 unfold tQ
 rw [show (dB.mk [] 0 0 0 0 0 0 0 0 [])=zP from rfl,show (aE.mk 0 0 [] [] [])=zV from rfl,show (bO.mk 0 0 [] [] [] [] 0 0 0 0 zV zP [] [])=zQ from rfl]
 rw [o1,aA,a1,aA,a2,aA,a3,aA,a4,aA,a5,aA,a6,aA,a7,aA,a8,aA,a9,aA,a10,aA,a11,aA,a12,aA,a13,aA]
 have hq:(bO.mk q.Kind q.Time q.Workflow q.Run q.ID q.Name q.Token q.Event q.Seq q.N q.Data zP q.Commands q.Parent)=q:=by rw [← l6]
 rw [hq]
 by_cases hs0:s=[]
 ·
  subst hs0
  rw [aQ7 t13,aA,xP hh,hr]
  simp
 ·
  rw [aNk t13 hs0,aA]
  simp [hs0]
def q14:bO:=⟨14,3,[],[],[],[],0,0,0,0,⟨0,0,[],[],[]⟩,⟨[],0,0,0,0,0,0,0,0,[]⟩,[],[]⟩
def q02:bO:=⟨2,0,[119],[],[97,47,98],[115],0,0,0,0,⟨0,0,[],[],[]⟩,⟨[],0,0,0,0,0,0,0,0,[]⟩,[],[]⟩
theorem aL9:iO q14:=⟨by simp [q14,sC],by simp [q14,sC],by simp [q14,okS],by simp [q14,okS],by simp [q14,okS],by simp [q14,okS],by simp [q14,sC],by simp [q14,sC],by simp [q14,sC],by simp [q14,sC],aQT,aQS,⟨by simp [q14],by simp [q14],by simp [q14]⟩,by simp [q14,okS]⟩
theorem aRq:iO q02:=⟨by simp [q02,sC],by simp [q02,sC],by simp [q02,okS],by simp [q02,okS],by simp [q02,okS],by simp [q02,okS],by simp [q02,sC],by simp [q02,sC],by simp [q02,sC],by simp [q02,sC],aQT,aQS,⟨by simp [q02],by simp [q02],by simp [q02]⟩,by simp [q02,okS]⟩
theorem aPv:qsm q14:=aPi (by decide +kernel)
theorem aRH:qsm q02:=aPi (by decide +kernel)
theorem aQY:vK q14=true:=by decide +kernel
theorem aSg:vK q02=false:=by decide +kernel
theorem aOF:aFS q14=[28,6,0,0,0,0,0,0,0,0,0,0,0]:=by decide +kernel
theorem aQG:vU=some true:=by
 unfold vU
 rw [show bO.mk 14 _ _ _ _ _ _ _ _ _ _ _ _ _=q14 from rfl,show bO.mk 2 _ _ _ _ _ _ _ _ _ _ _ _ _=q02 from rfl,(aG9 aL9 aPv).1,(aG9 aRq aRH).1]
 have h1:aJa q14=(aFS q14,0):=by unfold aJa;rw [aQY,aQ rfl,aN (by rw [aOF];decide)]
 have h2:aJa q02=([],3):=by unfold aJa;rw [aSg];rfl
 have h3:=aJj (s:=[]) aL9 aPv aQY (by rw [aOF];decide)
 rw [List.append_nil,aQ rfl] at h3
 rw [h1,h2,aA]
 simp only
 rw [h3,aA,aA,aHh aL9,aOF]
 rfl
def aFw (a b:bL):Bool:=decide (a.Kind=b.Kind)&&decide (a.Seq=b.Seq)&&decide (a.Name=b.Name)&&decide (a.Key=b.Key)&&decide (a.N=b.N)&&qW a.Data b.Data&&aAo a.Opts b.Opts
theorem aPJ {a b:bL} (h:iZ a):wG a b=some (aFw a b):=by
 unfold wG aFw
 rw [sE h.2.2.2.2.2.1,uS h.2.2.2.2.2.2]
 cases decide (a.Kind=b.Kind) <;> cases decide (a.Seq=b.Seq) <;> cases decide (a.Name=b.Name) <;> cases decide (a.Key=b.Key) <;> cases decide (a.N=b.N) <;> first | rfl | (cases qW a.Data b.Data <;> rfl)
theorem aAH {α:Type}{l:List α}{i:Nat} (d:α) (h:i<l.length):l.getD i d=l[i]:=by simp [bJ,h]
theorem aMp {a b:List bL} (h:aDa 240 iZ a):∃ x,dQ a b=some x∧kB a b=some x:=by
 unfold dQ kB
 by_cases hl:(a.length:Int)=(b.length:Int)
 ·
  have hlen:a.length=b.length:=by omega
  have e1:fX (dO a b) (0:Int)=some (if (List.range a.length).all (fun i=>aFw (a.getD i zC) (b.getD i zC)) then .go () else .done false):=by
   refine kZ a.length _ false (fun i hi=>?_) ?_
   ·
    unfold dO
    rw [cU,aQ (by omega),gJ hi,aA,gJ (by omega),aA,aPJ (h.2.2 _ (aX hi)),aA,nJ hi h.1,aAH zC hi,aAH zC (by omega)]
    cases aFw a[i] b[i] <;> rfl
   ·
    unfold dO
    rw [cU,aN (by omega)]
  have e2:fX (jJ a b) (0:Int)=some (if (List.range a.length).all (fun i=>aFw (a.getD i zC) (b.getD i zC)) then .go () else .done false):=by
   refine kZ a.length _ false (fun i hi=>?_) ?_
   ·
    have hc:=h.2.2 _ (aX hi)
    unfold jJ
    rw [cU,aQ (by omega),gJ hi,aA,gJ (by omega),aA,aBJ hc.2.2.2.2.2.1 hc.2.2.2.2.2.2,aA,nJ hi h.1,aAH zC hi,aAH zC (by omega)]
    show cond (!aFw a[i] b[i]) _ _=_
    cases aFw a[i] b[i] <;> rfl
   ·
    unfold jJ
    rw [cU,aN (by omega)]
  rw [lI hl,e1,e2]
  cases (List.range a.length).all (fun i=>aFw (a.getD i zC) (b.getD i zC)) <;> exact ⟨_,rfl,rfl⟩
 ·
  rw [decide_eq_false hl]
  exact ⟨false,rfl,rfl⟩
theorem cG (a b:Bool):(a&&(if (a==true)=true then b else default))=(a&&b):=by cases a <;> rfl
theorem aMq {a b:bO} (h:iO a):∃ x,wQ a b=some x∧oT a b=some x:=by
 have hd:dF a.Data:=h.2.2.2.2.2.2.2.2.2.2.1
 have ho:gO a.Opts:=h.2.2.2.2.2.2.2.2.2.2.2.1
 obtain ⟨x,h1,h2⟩:=aMp (b:=b.Commands) h.2.2.2.2.2.2.2.2.2.2.2.2.1
 unfold wQ oT
 rw [sE hd,uS ho,xO hd,rE ho,h1,h2]
 simp only [gdS,aA,cF,cT,cG,cS,Bool.not_or,Bool.not_not]
 refine ⟨_,rfl,mT some ?_⟩
 ac_rfl
theorem aMo {a b:nX} (h:aBw a):∃ x,qN a b=some x∧rW a b=some x:=by
 obtain ⟨k1,k2,k3,k4,k5,k6⟩:=h
 unfold qN rW
 rw [sE k5,xO k5]
 generalize decide (a.Err=b.Err)=b1
 generalize decide (a.Run=b.Run)=b2
 generalize decide (a.Token=b.Token)=b3
 generalize decide (a.N=b.N)=b4
 generalize qW a.Data b.Data=b5
 unfold fD
 by_cases hl:(a.Events.length:Int)=(b.Events.length:Int)
 ·
  have e1:fX (eD a.Events b.Events) (0:Int)=some (if (List.range a.Events.length).all (fun i=>aD9 (a.Events.getD i zE) (b.Events.getD i zE)) then .go () else .done false):=by
   refine kZ a.Events.length _ false (fun i hi=>?_) ?_
   ·
    unfold eD
    rw [cU,aQ (by omega),gJ hi,aA,gJ (by omega),aA,aHR (k6.2.2 _ (aX hi)),aA,nJ hi k6.1,aAH zE hi,aAH zE (by omega)]
    cases aD9 a.Events[i] b.Events[i] <;> rfl
   ·
    unfold eD
    rw [cU,aN (by omega)]
  have e2:fX (pN a b) (0:Int)=some (if (List.range a.Events.length).all (fun i=>aD9 (a.Events.getD i zE) (b.Events.getD i zE)) then .go () else .done false):=by
   refine kZ a.Events.length _ false (fun i hi=>?_) ?_
   ·
    unfold pN
    rw [cU,aQ (by omega),gJ hi,aA,gJ (by omega),aA,aJg (k6.2.2 _ (aX hi)),aA,nJ hi k6.1,aAH zE hi,aAH zE (by omega)]
    cases aD9 a.Events[i] b.Events[i] <;> rfl
   ·
    unfold pN
    rw [cU,aN (by omega)]
  rw [lI hl,e1,e2]
  cases (List.range a.Events.length).all (fun i=>aD9 (a.Events.getD i zE) (b.Events.getD i zE)) <;> cases b1 <;> cases b2 <;> cases b3 <;> cases b4 <;> cases b5 <;> exact ⟨_,rfl,rfl⟩
 ·
  rw [decide_eq_false hl]
  cases b1 <;> cases b2 <;> cases b3 <;> cases b4 <;> cases b5 <;> exact ⟨_,rfl,rfl⟩
theorem aEM (p q:bO) (a:aCc) (hp:iO p) (hq:iO q) (ha:aG1 a):qI p q a=some true:=by
 obtain ⟨x,h1,h2⟩:=aMq (b:=q) hp
 obtain ⟨y,h3,h4⟩:=aMo (a:=a.E0) (b:=a.E1) ha.1
 unfold qI
 rw [aQG,h1,h2,h3,h4]
 generalize (cond (cond (cond (decide ((300:Int)<(p.Commands.length:Int))) true (decide ((300:Int)<(q.Commands.length:Int)))) true (decide ((200:Int)<(a.E0.Events.length:Int)))) true (decide ((200:Int)<(a.E1.Events.length:Int))))=c
 cases c <;> cases x <;> cases y <;> rfl

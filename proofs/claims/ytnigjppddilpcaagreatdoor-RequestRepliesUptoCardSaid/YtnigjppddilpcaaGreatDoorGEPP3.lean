/- Plain laws: what the functions compute, with no program in sight. -/
import Derived.Test.YtnigjppddilpcaaGreatDoorGEPP2
import Derived.Test.YtnigjppddilpcaaGreatDoorGEF14
import Derived.Test.YtnigjppddilpcaaGreatDoorGEF16
import Derived.Test.YtnigjppddilpcaaGreatDoorAbsU
import Derived.Test.YtnigjppddilpcaaGreatDoorGEF1
import Derived.Test.YtnigjppddilpcaaGreatDoorGEF8
import Derived.Test.YtnigjppddilpcaaGreatDoorGEPP0
import Derived.Test.YtnigjppddilpcaaGreatDoorGESh
import Derived.Test.YtnigjppddilpcaaGreatDoorGEPP1
import Derived.Test.YtnigjppddilpcaaGreatDoorGEF2
import Derived.Test.YtnigjppddilpcaaGreatDoorGEF3
import Derived.Test.YtnigjppddilpcaaGreatDoorGEF4
import Derived.Test.YtnigjppddilpcaaGreatDoorGEF6
import Derived.Test.YtnigjppddilpcaaGreatDoorGEF9
import Derived.Test.YtnigjppddilpcaaGreatDoorGEF10
import Derived.Test.YtnigjppddilpcaaGreatDoorGEF0
import Derived.Test.YtnigjppddilpcaaGreatDoorGEF5
import Derived.Test.YtnigjppddilpcaaGreatDoorGEF11
import Derived.Test.YtnigjppddilpcaaGreatDoorGEF12
import Derived.Test.YtnigjppddilpcaaGreatDoorGEF17
import Derived.Test.YtnigjppddilpcaaGreatDoorGEF18
namespace Go.Proofs.YtnigjppddilpcaaGreatDoor
open Go Abs
set_option linter.unusedSimpArgs false
set_option linter.unusedVariables false
theorem aCI {c:cK} (hr:mE c=true):c.Name.length≤4096∧c.Key.length≤64:=by
 unfold mE at hr
 simp only [aR,eC,gP] at hr
 obtain ⟨⟨⟨⟨⟨⟨⟨_,hb⟩,_⟩,_⟩,_⟩,hk⟩,hn⟩,_⟩:=hr
 constructor
 ·
  rcases hn with hn | hn
  ·
   unfold aEn at hb
   simp only [aR,eC,hn,bU] at hb
   have:=hb.1.1.1.1.2
   simp at this
   rw [this];simp
  ·
   by_cases h12:c.Kind=12
   ·
    rw [bB h12] at hn
    simp only [oD,gP,mJ] at hn
    omega
   ·
    rw [aY h12] at hn
    have:=aCd hn
    omega
 ·
  rcases hk with hk | hk
  ·
   unfold aEn at hb
   simp only [aR,eC,hk,bU] at hb
   have:=hb.1.1.1.2
   simp at this
   rw [this];simp
  ·
   unfold lJ at hk
   simp only [aR,bU] at hk
   exact hk.1.2
theorem aLi {c:cK} (h:mC c) (hr:mE c=true) (hn:nsz c.Data≤1200):(aEo c).length≤11000000∧(rO c.Data).length≤10100000:=by
 obtain ⟨s1,s2⟩:=aCI hr
 obtain ⟨r1,r2⟩:=aAp hr
 obtain ⟨k0,k1,k2,k3,k4,k5,k6⟩:=h
 have a0:=kC k0
 have a1:=kC k1
 have a2:=oN (s:=c.Name) (by omega)
 have a3:=oN (s:=c.Key) (by omega)
 have a4:=kC k4
 have a5:=aKk (hgt c.Data) c.Data (eP _) k5 (oO r1).1
 have a6:=aGO k6 r2
 unfold aEo
 simp only [aF]
 omega
theorem aId {b:List UInt8}{c:cK} (h:mC c) (hr:mE c=true) (hn:nsz c.Data≤1200) (hb:b.length≤50000000000):xG b c=some (b++aEo c)∧aDL b c=some (b++aEo c):=by
 obtain ⟨r1,r2⟩:=aAp hr
 obtain ⟨s1,s2⟩:=aCI hr
 have hl:=aLi h hr hn
 constructor
 ·
  unfold xG
  rw [aBk (by omega),yG h,hr]
  obtain ⟨k0,k1,k2,k3,k4,k5,k6⟩:=h
  unfold aEo at hl ⊢
  simp only [aF] at hl
  simp only [aA,cJ,bP,cL]
  rw [aBB (by omega) k0,aA,aBB (by first | omega | (simp only [aF];omega)) k1,aA,aJQ (by first | omega | (simp only [aF];omega)) (by omega),aA,aJQ (by first | omega | (simp only [aF];omega)) (by omega),aA,
   aBB (by first | omega | (simp only [aF];omega)) k4,aA,zT k5 (by first | omega | (simp only [aF];omega)),(oO r1).2.2,aA]
  rw [aLv k6 r2 (by simp only [cL,aF];omega)]
  simp
 ·
  unfold aDL
  rw [wO (by simp;omega),aC4 h,hr]
  obtain ⟨k0,k1,k2,k3,k4,k5,k6⟩:=h
  unfold aEo at hl ⊢
  simp only [aF] at hl
  simp only [aA,cJ,bP,cL,iC]
  rw [aBu (by omega) k0,aA,aBu (by first | omega | (simp only [aF];omega)) k1,aA,aEK (by first | omega | (simp only [aF];omega)) (by omega),aA,aEK (by first | omega | (simp only [aF];omega)) (by omega),aA,
   aBu (by first | omega | (simp only [aF];omega)) k4,aA,aBT k5 (by first | omega | (simp only [aF];omega)),(oO r1).2.2,aA]
  rw [aCl k6 (by simp only [cL,aF];omega),r2]
  simp
theorem aRE {r:aX}{c:cK}{rest:List UInt8} (h:At r (aEo c++rest)) (hc:mC c) (hr:mE c=true) (hn:nsz c.Data≤1200):∃ r',xF r=some (c,r')∧At r' rest:=by
 obtain ⟨c1,c2⟩:=aAp hr
 obtain ⟨s1,s2⟩:=aCI hr
 obtain ⟨k0,k1,k2,k3,k4,k5,k6⟩:=id hc
 unfold aEo at h
 simp only [dJ] at h
 obtain ⟨r0,a0,l0⟩:=aBx h k0
 obtain ⟨r1,a1,l1⟩:=aBx l0 k1
 obtain ⟨r2,a2,l2⟩:=aBP (most:=4096) l1 (by omega)
 obtain ⟨r3,a3,l3⟩:=aBP (most:=4096) l2 (by omega)
 obtain ⟨r4,a4,l4⟩:=aBx l3 k4
 obtain ⟨r5,a5,l5⟩:=xD l4 k5 c1 hn
 obtain ⟨r6,a6,l6⟩:=aIk l5 k6 c2
 unfold xF
 rw [a0]
 simp only [aA]
 rw [a1]
 simp only [aA]
 rw [a2]
 simp only [aA]
 rw [a3]
 simp only [aA]
 rw [a4]
 simp only [aA]
 rw [a5]
 simp only [aA]
 rw [a6]
 simp only [aA]
 have e:(⟨c.Kind,c.Seq,c.Name,c.Key,c.N,c.Data,c.Opts⟩:cK)=c:=rfl
 rw [wP l6,e,yG hc,hr]
 refine ⟨r6,?_,l6⟩
 simp only [aA,cG,eJ,gd,cL,cJ,dM,bP]
 rw [wP l6]
 rfl
theorem aGt {α:Type}{row:α→List PV}:∀ {l:List α}{x:α},x∈l→PV.bulkRow (row x)≤PV.bulkRows (l.map row)
 | [],x,h=>by simp at h
 | y :: l,x,h=>by
  simp only [iN,PV.bulkRows]
  rcases eT.1 h with rfl | h
  ·
   omega
  ·
   have:=aGt (row:=row) h;omega
theorem aHU (v:aK):PV.bulkRow (bO v)=v.Text.length+PV.bulkRows (v.Items.map bO)+PV.bulkRows (v.Keys.map fZ)+5:=by
 rw [eA]
 simp only [fA,PV.bulkRow,PV.bulk,PV.ls]
 omega
theorem aRB (s:List UInt8):PV.bulkRow (fZ s)=s.length+1:=by simp [fZ,PV.bulkRow,PV.bulk]
theorem aLD:∀ (n:Nat) (v:aK),hgt v≤n→dX v→(rO v).length≤20*PV.bulkRow (bO v):=by
 intro n
 induction n with
 | zero=>intro v h;have:=mK v;omega
 | succ n ih =>
  intro v h hv
  have hh:=mK v
  obtain ⟨k0,k1,k2,k3,k4⟩:=(gF v).1 hv
  have e1:=kC k0
  have e2:=kC k1
  have e3:=oN (s:=v.Text) (by unfold okS at k2;omega)
  have e4:=aAr (n:=v.Items.length) k3.1
  have hi:∀ x∈v.Items,(rO x).length≤20*PV.bulkRow (bO x):=fun x hx=>ih x (by have:=pB hx;omega) (k3.2.2 x hx)
  rw [aJf,aHU]
  simp only [aF]
  have f4:∀ l:List aK,(∀ x∈l,(rO x).length≤20*PV.bulkRow (bO x))→(l.flatMap rO).length≤20*PV.bulkRows (l.map bO):=by
   intro l
   induction l with
   | nil=>intro _;simp
   | cons x l ihl =>
    intro hl
    have a1:=ihl (fun y hy=>hl y (by simp [hy]))
    have a2:=hl x (by simp)
    simp only [iM,aF,iN,PV.bulkRows];omega
  have key:∀ (l:List aK) (ks:List (List UInt8)),(∀ x∈l,(rO x).length≤20*PV.bulkRow (bO x))→(∀ k∈ks,k.length≤9223372036854775807)→((l.zip ks).flatMap fun p=>sX p.2++rO p.1).length≤20*PV.bulkRows (l.map bO)+20*PV.bulkRows (ks.map fZ):=by
   intro l
   induction l with
   | nil=>intro ks _ _;simp
   | cons x l ihl =>
    intro ks hl hk
    cases ks with
    | nil=>simp
    | cons k ks =>
     have a1:=ihl ks (fun y hy=>hl y (by simp [hy])) (fun y hy=>hk y (by simp [hy]))
     have a2:=hl x (by simp)
     have a4:=oN (s:=k) (hk k (by simp))
     have a5:=aRB k
     simp only [List.zip_cons_cons,iM,aF,iN,PV.bulkRows];omega
  have g4:=f4 v.Items hi
  have g5:=key v.Items v.Keys hi (fun k hk=>by have:=k4.2.2 k hk;unfold okS at this;omega)
  split
  ·
   omega
  ·
   split
   ·
    omega
   ·
    split
    ·
     simp only [aF];omega
    ·
     split
     ·
      simp only [aF];omega
     ·
      simp only [jO];omega
theorem aOR (e:dP):PV.bulkRow (eU e)=e.Name.length+e.Key.length+PV.bulkRow (bO e.Data)+PV.bulkRow (lP e.Opts)+9:=by
 rw [aHU]
 simp only [eU,lP,PV.bulkRow,PV.bulk,PV.ls]
 omega
def vH (e:dP):List Int:=[e.ID,e.Kind,e.Time,e.Seq,e.Ref,e.N,e.Code]
noncomputable def aD8 (e:dP):List UInt8:=(vH e).flatMap mU++sX e.Name++sX e.Key++(if fmd true e.Data then rO e.Data else [])++(if rZ e.Opts then aIA e.Opts else [])
theorem aLn {e:dP} (h:jU e):∀ n∈vH e,uQ n:=by
 obtain ⟨h1,h2,h3,h4,h5,h6,h7,h8,h9,h10,h11⟩:=h
 simp only [vH,eT,rE,or_false]
 rintro n (rfl | rfl | rfl | rfl | rfl | rfl | rfl) <;> assumption
theorem aJv {e:dP} (h:jU e):((vH e).flatMap mU).length≤70:=by
 have:=aIY mU 10 (vH e) (fun n hn=>kC (aLn h n hn))
 simpa [vH] using this
def aLY (e:dP):Prop:=e.Name.length≤1000000000∧e.Key.length≤1000000000∧(rO e.Data).length≤1000000000
theorem aOV {e:dP} (h:jU e) (hb:PV.bulkRow (eU e)≤1048576):aLY e:=by
 have h1:=aOR e
 have h2:=aLD _ e.Data (eP _) h.2.2.2.2.2.2.2.2.2.1
 exact ⟨by omega,by omega,by omega⟩
theorem aQG {e:dP} (h:jU e) (hb:PV.bulkRow (eU e)≤1048576):(aD8 e).length≤400000+20*PV.bulkRow (eU e):=by
 have h0:=aOR e
 have h1:=aJv h
 have h2:=oN (s:=e.Name) (by omega)
 have h3:=oN (s:=e.Key) (by omega)
 have h6:=aLD _ e.Data (eP _) h.2.2.2.2.2.2.2.2.2.1
 unfold aD8
 simp only [aF]
 have h4:(if fmd true e.Data then rO e.Data else []).length≤20*PV.bulkRow (bO e.Data):=by split;exact h6;simp
 have h5:(if rZ e.Opts then aIA e.Opts else []).length≤300000:=by
  split
  ·
   rename_i hp;exact aGO h.2.2.2.2.2.2.2.2.2.2 hp
  ·
   simp
 omega
theorem aIf {b:List UInt8}{e:dP} (h:jU e) (hs:aLY e) (hb:b.length≤50000000000):uO b e=some (b++aD8 e)∧aAF b e=some (b++aD8 e):=by
 have hl:=aJv h
 have hok:=aLn h
 obtain ⟨s1,s2,s3⟩:=hs
 have hv:dX e.Data:=h.2.2.2.2.2.2.2.2.2.1
 have hp:iL e.Opts:=h.2.2.2.2.2.2.2.2.2.2
 have h2:=oN (s:=e.Name) (by omega)
 have h3:=oN (s:=e.Key) (by omega)
 have h4:(if fmd true e.Data then rO e.Data else []).length≤1000000000:=by split;exact s3;simp
 constructor
 ·
  have hloop:gL (rH e) (b,(0:Int))=some (b++(vH e).flatMap mU):=by
   refine qG 1000000000000 (vH e) mU b (by simp only [aF];omega) (fun s i hi hs=>?_) (fun s=>?_)
   ·
    unfold rH
    simp only [aF] at hs
    rw [dO,bB (by show (i:Int)<((vH e).length:Int);omega),show mP ([e.ID,e.Kind,e.Time,e.Seq,e.Ref,e.N,e.Code]:List Int) (i:Int)=some (vH e)[i] from iJ hi,aA,aBB (by simp only;omega) (hok _ (bN hi)),aA,nV hi (by simp [vH])]
   ·
    unfold rH
    rw [dO,aY (by simp [vH])]
  unfold uO
  rw [hloop,aA,aJQ (by simp only [aF];omega) (by omega),aA,aJQ (by simp only [aF];omega) (by omega),aA,zT hv (by simp only [aF];omega),aA,
   aIv hp (by simp only [aF];omega),aA]
  unfold aD8
  simp only [dJ]
 ·
  have hloop:gL (wE e) (b,(0:Int))=some (b++(vH e).flatMap mU):=by
   refine qG 1000000000000 (vH e) mU b (by simp only [aF];omega) (fun s i hi hs=>?_) (fun s=>?_)
   ·
    unfold wE
    simp only [aF] at hs
    rw [dO,bB (by show (i:Int)<((vH e).length:Int);omega),show mP ([e.ID,e.Kind,e.Time,e.Seq,e.Ref,e.N,e.Code]:List Int) (i:Int)=some (vH e)[i] from iJ hi,aA,aBu (by simp only;omega) (hok _ (bN hi)),aA,nV hi (by simp [vH])]
   ·
    unfold wE
    rw [dO,aY (by simp [vH])]
  unfold aAF
  rw [wO (by simp;omega),aA,iC,hloop,aA,aEK (by simp only [aF];omega) (by omega),aA,aEK (by simp only [aF];omega) (by omega),aA,aBT hv (by simp only [aF];omega),aA,
   aCl hp (by simp only [aF];omega),aA]
  unfold aD8
  simp only [dJ]
def aHv {α:Type} (p:α→Bool):List α→Nat→Option (Nat × α)
 | [],_=>none
 | x :: l,k=>if p x then some (k,x) else aHv p l (k+1)
def aLZ {α τ:Type} (d:Nat→α→τ):Option (Nat × α)→Fl τ Unit
 | some (i,x)=>.done (d i x)
 | none=>.go ()
theorem aJK {α τ:Type}{l:List α}{p:α→Bool}{d:Nat→α→τ}{body:Int→Option (dU Int (Fl τ Unit))} (h:∀ (i:Nat) (hi:i<l.length),body (i:Int)=some (if p l[i] then .out (.done (d i l[i])) else .next ((i+1:Nat):Int)))
  (hout:body (l.length:Int)=some (.out (.go ()))):∀ (suf pre:List α),l=pre++suf→gL body (pre.length:Int)=some (aLZ d (aHv p suf pre.length)):=by
 intro suf
 induction suf with
 | nil =>
  intro pre e
  rw [mH] at e
  rw [aEt,← e,hout];rfl
 | cons x suf ih =>
  intro pre e
  have hi:pre.length<l.length:=by rw [e];simp
  have hx:l[pre.length]=x:=by simp [e]
  rw [aEt,h _ hi,hx]
  cases hp:p x
  ·
   have:=ih (pre++[x]) (by simp [e])
   rw [aF,List.length_singleton] at this
   simp only [aHv,hp,jN,dZ,aA]
   exact this
  ·
   simp only [aHv,hp,cL,aA,aLZ]
theorem aO2 {α τ:Type}{l:List α} (p:α→Bool) (d:Nat→α→τ) {body:Int→Option (dU Int (Fl τ Unit))} (h:∀ (i:Nat) (hi:i<l.length),body (i:Int)=some (if p l[i] then .out (.done (d i l[i])) else .next ((i+1:Nat):Int)))
 (hout:body (l.length:Int)=some (.out (.go ()))):gL body (0:Int)=some (aLZ d (aHv p l 0)):=aJK h hout l [] rfl
theorem aH4 {n l h:Int}:lN n l h=some (inB n l h):=by unfold lN inB;rw [nB];by_cases h1:l≤n <;> simp [h1]
theorem aFy {s:List UInt8} (hs:s.length≤9223372036854775807):nY s=some (lJ s):=(show nY s=tU s from rfl).trans (aJB hs)
theorem aOU {v:aK} (hv:dX v):aBm v=some (aB9 v):=by
 obtain ⟨k0,k1,k2,k3,k4⟩:=(gF v).1 hv
 unfold aBm
 simp only [aA0]
 by_cases h2:v.Items.length=2
 ·
  obtain ⟨a,b,hab⟩:=aNn h2
  obtain ⟨_,_,_,hb,_⟩:=(gF b).1 (k3.2.2 b (by rw [hab];simp))
  have h0:mP v.Items (1:Int)=some b:=by rw [hab];rfl
  have hi2:aB9 v=(decide (v.Kind=4)&&decide (b.Kind=4)&&b.Items.all pE):=by unfold aB9;rw [hab]
  have hC:gL (xK b) (0:Int)=some (if b.Items.all pE then .go () else .done false):=by
   rw [nZ b.Items.length (fun i=>pE (b.Items.getD i default)) false (fun i hi=>?_) ?_,rW b.Items pE]
   ·
    unfold xK
    rw [dO,aY (by omega)]
   ·
    unfold xK
    rw [dO,bB (by omega),iJ hi,aA,nV hi hb.1]
    simp only [bZ,aM hi,eR,aA0,wJ]
    generalize b.Items[i]=x
    by_cases h2:x.Items.length=2
    ·
     obtain ⟨c,d,hcd⟩:=aNn h2
     have hp:pE x=(decide (x.Kind=4)&&decide (c.Kind=3)&&nL c.Text):=by unfold pE;rw [hcd]
     have h0:mP x.Items (0:Int)=some c:=by rw [hcd];rfl
     rw [h0,hp,h2]
     by_cases h1:x.Kind=4 <;> by_cases h3:c.Kind=3
     ·
      simp only [h1,h3,cG,mQ,cJ,bP,eJ,gd,cL,aA,dW]
      cases nL c.Text <;> rfl
     ·
      simp [h1,h3,gd]
     ·
      simp [h1,h3,gd]
     ·
      simp [h1,h3,gd]
    ·
     have:pE x=false:=aFb h2
     simp [this,h2,gd]
  rw [h0,h2,hi2]
  by_cases h1:v.Kind=4 <;> by_cases h3:b.Kind=4
  ·
   simp only [h1,h3,cG,mQ,cJ,bP,eJ,gd,cL,aA,dW,hC]
   cases b.Items.all pE <;> rfl
  ·
   simp [h1,h3,gd]
  ·
   simp [h1,h3,gd]
  ·
   simp [h1,h3,gd]
 ·
  have:aB9 v=false:=aGC h2
  simp [this,h2,gd]
def wU (k:Int):Int:=if k=7 then 1 else if k=12 then 2 else if k=14 then 3 else if k=16 then 4 else if k=19 then 5 else if k=23 then 6 else if k=18 then 7 else if k=27 then 8 else if k=28 then 9 else if k=29 then 10 else if k=30 then 11 else if k=31 then 12 else if k=32 then 13 else if k=35 then 14 else 0
theorem aR2 {α:Type}{p:Prop} [Decidable p] {a b:α}:(if p then some a else some b)=some (if p then a else b):=by split <;> rfl
theorem aLU (k:Int):wB k=some (wU k):=by
 unfold wB wU
 simp only [dO,aR2]
theorem or3 {a b c:Bool}:(cond a (some a) (cond b (some b) (some c)))=some (a||b||c):=by cases a <;> cases b <;> rfl
theorem or2 {a b:Bool}:(cond a (some a) (some b))=some (a||b):=by cases a <;> rfl
theorem aE6 {α:Type}{c:Bool}{a b:α}:cond c (some a) (some b)=some (cond c a b):=by cases c <;> rfl
def aCy (k:Int):kK :=
 cond (decide (k=1)) ⟨false,false,true,false,true,true,true⟩ (cond (decide (k=2)) ⟨false,false,true,false,false,false,false⟩ (cond (decide (k=3)||decide (k=4)||decide (k=6)) ⟨false,true,false,false,false,false,false⟩
 (cond (decide (k=5)) ⟨false,true,false,true,false,false,false⟩ (cond (decide (k=8)) ⟨true,true,true,false,false,false,false⟩ (cond (decide (k=9)||decide (k=13)||decide (k=21)) ⟨true,true,false,false,false,false,true⟩
 (cond (decide (k=10)||decide (k=22)) ⟨true,true,false,false,true,false,true⟩ (cond (decide (k=11)) ⟨true,true,false,true,false,false,false⟩ (cond (decide (k=15)||decide (k=24)) ⟨true,true,false,false,false,false,false⟩
 (cond (decide (k=17)) ⟨false,false,false,false,true,true,true⟩ (cond (decide (k=20)) ⟨true,true,false,false,false,true,false⟩ (cond (decide (k=25)) ⟨true,true,false,false,true,false,false⟩
 (cond (decide (k=26)) ⟨false,false,false,false,false,true,false⟩ (cond (decide (k=33)) ⟨false,false,false,false,true,false,false⟩ ⟨false,false,false,false,false,false,false⟩)))))))))))))
theorem aT0 (k:Int):aB6 k=some (aCy k):=by
 unfold aB6 aCy
 simp only [or3,or2,aA]
 simp only [aE6,Bool.or_assoc]
def aC0 (u:kK) (e:dP):Bool :=
 (u.seq_||decide (e.Seq=0))&&(u.ref_||decide (e.Ref=0))&&(u.n_||decide (e.N=0))&&(u.code_||decide (e.Code=0))&&(u.name_||decide (e.Name=[]))&&(u.key_||decide (e.Key=[]))&&(u.data_||rT e.Data sR)&&aBr e.Opts yF
theorem aRP {u:kK}{e:dP} (h:jU e):uM u e=some (aC0 u e):=by
 have hd:dX e.Data:=h.2.2.2.2.2.2.2.2.2.1
 have ho:iL e.Opts:=h.2.2.2.2.2.2.2.2.2.2
 unfold uM aC0
 rw [show (aK.mk 0 0 [] [] [])=sR from rfl,show (dR.mk [] 0 0 0 0 0 0 0 0 [])=yF from rfl,aC7 hd,aCX ho]
 simp only [Bool.cond_true_left,Bool.cond_false_right]
 generalize ((u.seq_||decide (e.Seq=0))&&(u.ref_||decide (e.Ref=0))&&(u.n_||decide (e.N=0))&&(u.code_||decide (e.Code=0))&&(u.name_||decide (e.Name=[]))&&(u.key_||decide (e.Key=[])))=b
 cases b
 ·
  simp [gd]
 ·
  cases u.data_
  ·
   cases rT e.Data sR <;> simp [gd]
  ·
   simp [gd]
noncomputable def aOL (e:dP) (k:Int):Bool:=decide (e.Code=0)&&(if k=2∨k=4 then inB e.Ref 1 2000 else decide (e.Ref=0))&&mE ⟨k,e.Seq,e.Name,e.Key,e.N,e.Data,e.Opts⟩
theorem aUf {e:dP} (h:jU e) {k:Int} (hk:uQ k):mC ⟨k,e.Seq,e.Name,e.Key,e.N,e.Data,e.Opts⟩:=by
 obtain ⟨h1,h2,h3,h4,h5,h6,h7,h8,h9,h10,h11⟩:=h
 exact ⟨hk,h4,h8,h9,h6,h10,h11⟩
theorem aLV {e:dP} (h:jU e) {k:Int} (hk:uQ k):wC e k=some (aOL e k):=by
 unfold wC aOL
 rw [yG (aUf h hk),aH4]
 generalize mE _=c
 generalize inB e.Ref 1 2000=r
 by_cases hc:e.Code=0 <;> by_cases h2:k=2 <;> by_cases h4:k=4 <;> by_cases hr:e.Ref=0 <;> simp [hc,h2,h4,hr,gd] <;> cases r <;> simp
def aIi (e:dP):Bool :=
 cond (decide (e.Kind=1)) (nL e.Name&&lJ e.Key&&inB e.N 0 4294967295&&aB9 e.Data) (cond (decide (e.Kind=2)) (decide (1≤e.N)) (cond (decide (e.Kind=5)) (inB e.Code 1 30) (cond (decide (e.Kind=8)) (inB e.N 1 1000) (cond (decide (e.Kind=11)) (inB e.Code 1 4)
 (cond (decide (e.Kind=10)||decide (e.Kind=22)||decide (e.Kind=25)) (decide ((e.Name.length:Int)≤4096)) (cond (decide (e.Kind=33)) (decide ((e.Name.length:Int)≤64)) (cond (decide (e.Kind=17)) (nL e.Name&&lJ e.Key) (cond (decide (e.Kind=26)) (lJ e.Key) (cond (decide (e.Kind=20)) (vI e.Key).2 true)))))))))
theorem aUH {a b:Bool}:((gd (a==true) (some b)).bind fun (x:Bool)=>some (cond a x false))=some (a&&b):=by cases a <;> rfl
theorem aKL {e:dP} (h:jU e):uL e=some (aIi e):=by
 have hd:dX e.Data:=h.2.2.2.2.2.2.2.2.2.1
 have hk:okS e.Key:=h.2.2.2.2.2.2.2.2.1
 unfold okS at hk
 unfold uL aIi
 simp only [wJ,aFy (show e.Key.length≤9223372036854775807 by omega),aH4,aOU hd,aEu (show e.Key.length≤140737488355328 by omega),or3,aA]
 generalize nL e.Name=a
 generalize lJ e.Key=b
 generalize inB e.N 0 4294967295=c
 generalize aB9 e.Data=d
 have:((gd (a==true) (some b)).bind fun x4=>(gd ((cond a x4 false)==true) (some c)).bind fun x6=>(gd ((cond (cond a x4 false) x6 false)==true) (some d)).bind fun x8=>some (cond (cond (cond a x4 false) x6 false) x8 false))=some (a&&b&&c&&d):=by
  cases a <;> cases b <;> cases c <;> rfl
 rw [this]
 simp only [aUH]
 simp only [aE6,Bool.or_assoc]
noncomputable def sU (e:dP):Bool :=
 inB e.Kind 1 35&&inB e.ID 0 2000&&inB e.Time 0 1099511627776&&kR e.Data&&(if wU e.Kind=0 then aC0 (aCy e.Kind) e&&(!(aCy e.Kind).seq_||inB e.Seq 1 2000)&&(!(aCy e.Kind).ref_||inB e.Ref 1 2000)&&aIi e else aOL e (wU e.Kind))
theorem aLs (k:Int):uQ (wU k):=by
 unfold wU uQ
 repeat' split
 all_goals omega
theorem aEp {e:dP} (h:jU e):xJ e=some (sU e):=by
 have hd:dX e.Data:=h.2.2.2.2.2.2.2.2.2.1
 unfold xJ sU
 simp only [aH4,aAM hd,aLU,aT0,aRP h,aLV h (aLs _),aKL h,aA]
 cases inB e.Kind 1 35
 ·
  simp [gd]
 cases inB e.ID 0 2000
 ·
  simp [gd]
 cases inB e.Time 0 1099511627776
 ·
  simp [gd]
 cases kR e.Data
 ·
  simp [gd]
 simp only [cJ,bP,eJ,gd,cL,aA,dW,aBQ]
 split
 ·
  rename_i h0
  generalize aCy e.Kind=u
  cases aC0 u e
  ·
   simp
  ·
   cases u.seq_ <;> cases u.ref_ <;> cases inB e.Seq 1 2000 <;> cases inB e.Ref 1 2000 <;> simp
 ·
  simp
def wf {α:Type} (f:Int→α→Int):List α→Int→Int
 | [],a=>a
 | x :: l,a=>if 0≤a then wf f l (f a x) else a
set_option maxRecDepth 20000
theorem aNc (k:Int):0≤wU k∧wU k≤14:=by
 unfold wU
 repeat' split
 all_goals omega
def aOM:List Int:=[7,12,14,16,19,23,18,27,28,29,30,31,32,35]
theorem aFC (k:Int):wL k=some (wU k):=by
 unfold wL
 rw [show aAE=some aOM from rfl,aA]
 rw [aO2 (l:=aOM) (fun x=>decide (x=k)) (fun i _=>(i:Int)+1) (fun i hi=>?_) ?_,aA]
 ·
  unfold wU
  by_cases h7:k=7
  ·
   subst h7;rfl
  by_cases h12:k=12
  ·
   subst h12;rfl
  by_cases h14:k=14
  ·
   subst h14;rfl
  by_cases h16:k=16
  ·
   subst h16;rfl
  by_cases h19:k=19
  ·
   subst h19;rfl
  by_cases h23:k=23
  ·
   subst h23;rfl
  by_cases h18:k=18
  ·
   subst h18;rfl
  by_cases h27:k=27
  ·
   subst h27;rfl
  by_cases h28:k=28
  ·
   subst h28;rfl
  by_cases h29:k=29
  ·
   subst h29;rfl
  by_cases h30:k=30
  ·
   subst h30;rfl
  by_cases h31:k=31
  ·
   subst h31;rfl
  by_cases h32:k=32
  ·
   subst h32;rfl
  by_cases h35:k=35
  ·
   subst h35;rfl
  simp [aOM,aHv,aLZ,Fl.next,h7,h12,h14,h16,h19,h23,h18,h27,h28,h29,h30,h31,h32,h35,kQ h7,kQ h12,kQ h14,kQ h16,kQ h19,kQ h23,kQ h18,kQ h27,kQ h28,kQ h29,kQ h30,kQ h31,kQ h32,kQ h35]
 ·
  unfold yR
  rw [dO,aY (by omega)]
 ·
  have h:i<14:=hi
  unfold yR
  rw [dO,bB (by omega),iJ hi,aA,nV hi (by show (14:Nat)≤_;omega)]
  simp only [bU,dO]
  split <;> rfl
theorem aIG (k:Int):wD k=some (!decide (wU k=0)):=by
 unfold wD
 rw [aFC,aA]
 have:=(aNc k).1
 by_cases h:wU k=0
 ·
  rw [h];rfl
 ·
  have h2:0<wU k:=by omega
  simp [h,h2]
def aPI (a b:dP):Bool:=decide (a.ID=b.ID)&&decide (a.Kind=b.Kind)&&decide (a.Time=b.Time)&&decide (a.Seq=b.Seq)&&decide (a.Ref=b.Ref)&&decide (a.N=b.N)&&decide (a.Code=b.Code)&&decide (a.Name=b.Name)&&decide (a.Key=b.Key)&&rT a.Data b.Data&&aBr a.Opts b.Opts
theorem aQ1 {a b c:Bool}:((gd (a==true) (some b)).bind fun (x1:Bool)=>(gd ((cond a x1 false)==true) (some c)).bind fun (x3:Bool)=>some (cond (cond a x1 false) x3 false))=some (a&&b&&c):=by cases a <;> cases b <;> rfl
theorem aMf {a b:dP} (h:jU a):aCi a b=some (aPI a b):=by
 have hd:dX a.Data:=h.2.2.2.2.2.2.2.2.2.1
 have ho:iL a.Opts:=h.2.2.2.2.2.2.2.2.2.2
 unfold aCi aPI
 rw [aCm hd,uU ho,aQ1]
 simp only [Bool.cond_false_right]
theorem aOT (a:dP):aPI a a=true:=by unfold aPI;simp [aA6,aDI]
theorem aJ5 {n l h:Int}:uS n l h=some (inB n l h):=by unfold uS inB;rw [nB];by_cases h1:l≤n <;> simp [h1]
theorem aKQ {s:List UInt8} (hs:s.length≤9223372036854775807):xS s=some (lJ s):=(show xS s=nY s from rfl).trans (aFy hs)
theorem aKR {v:aK} (hv:dX v):aBt v=some (kR v&&aB9 v):=by
 obtain ⟨k0,k1,k2,k3,k4⟩:=(gF v).1 hv
 unfold aBt
 rw [zH hv,aA]
 cases kR v
 ·
  simp [gd]
 simp only [cJ,bP,dW]
 rw [aA0]
 by_cases h2:v.Items.length=2
 ·
  obtain ⟨a,b,hab⟩:=aNn h2
  obtain ⟨_,_,_,hb,_⟩:=(gF b).1 (k3.2.2 b (by rw [hab];simp))
  have h0:mP v.Items (1:Int)=some b:=by rw [hab];rfl
  have hi2:aB9 v=(decide (v.Kind=4)&&decide (b.Kind=4)&&b.Items.all pE):=by unfold aB9;rw [hab]
  have hC:gL (xT b) (0:Int)=some (if b.Items.all pE then .go () else .done false):=by
   rw [nZ b.Items.length (fun i=>pE (b.Items.getD i default)) false (fun i hi=>?_) ?_,rW b.Items pE]
   ·
    unfold xT
    rw [dO,aY (by omega)]
   ·
    unfold xT
    rw [dO,bB (by omega),iJ hi,nV hi hb.1]
    simp only [bZ,aM hi,eR,wK,aA]
    generalize b.Items[i]=x
    by_cases h1:x.Kind=4
    ·
     by_cases h2:x.Items.length=2
     ·
      obtain ⟨c,d,hcd⟩:=aNn h2
      have hp:pE x=(decide (x.Kind=4)&&decide (c.Kind=3)&&nL c.Text):=by unfold pE;rw [hcd]
      have h0:mP x.Items (0:Int)=some c:=by rw [hcd];rfl
      rw [hp,h1]
      by_cases h3:c.Kind=3
      ·
       simp [h2,h0,h3,gd]
       cases nL c.Text <;> rfl
      ·
       simp [h2,h0,h3,gd]
     ·
      have:pE x=false:=aFb h2
      have h2':¬((x.Items.length:Int)=2):=by omega
      simp [this,h1,h2',gd]
    ·
     have hp:pE x=false:=by unfold pE;split <;> simp [h1]
     simp [hp,h1,gd]
  rw [h0,h2,hi2]
  by_cases h1:v.Kind=4 <;> by_cases h3:b.Kind=4
  ·
   simp only [h1,h3,cG,mQ,cJ,bP,eJ,gd,cL,aA,dW,hC]
   cases b.Items.all pE <;> rfl
  ·
   simp [h1,h3,gd]
  ·
   simp [h1,h3,gd]
  ·
   simp [h1,h3,gd]
 ·
  have:aB9 v=false:=aGC h2
  simp [this,h2,gd]
def aCz (k:Int):gX :=
 cond (decide (k=1)) ⟨false,false,true,false,true,true,true,false⟩ (cond (decide (k=2)) ⟨false,false,true,false,false,false,false,false⟩ (cond (decide (k=3)||decide (k=4)||decide (k=6)) ⟨false,true,false,false,false,false,false,false⟩
 (cond (decide (k=5)) ⟨false,true,false,true,false,false,false,false⟩ (cond (decide (k=8)) ⟨true,true,true,false,false,false,false,false⟩ (cond (decide (k=9)||decide (k=13)||decide (k=21)) ⟨true,true,false,false,false,false,true,false⟩
 (cond (decide (k=10)||decide (k=22)) ⟨true,true,false,false,true,false,true,false⟩ (cond (decide (k=11)) ⟨true,true,false,true,false,false,false,false⟩ (cond (decide (k=15)||decide (k=24)||decide (k=12)||decide (k=16)) ⟨true,true,false,false,false,false,false,false⟩
 (cond (decide (k=17)) ⟨false,false,false,false,true,true,true,false⟩ (cond (decide (k=20)) ⟨true,true,false,false,false,true,false,false⟩ (cond (decide (k=25)) ⟨true,true,false,false,true,false,false,false⟩
 (cond (decide (k=26)) ⟨false,false,false,false,false,true,false,false⟩ (cond (decide (k=33)) ⟨false,false,false,false,true,false,false,false⟩ (cond (decide (k=7)) ⟨true,false,false,false,true,false,true,true⟩ (cond (decide (k=14)) ⟨true,false,true,false,false,false,false,false⟩
 (cond (decide (k=19)) ⟨true,false,true,false,true,true,true,false⟩ (cond (decide (k=23)) ⟨true,false,false,false,true,true,true,false⟩ (cond (decide (k=18)) ⟨false,false,true,false,true,false,true,false⟩ (cond (decide (k=27)) ⟨false,false,false,false,true,true,true,false⟩
 (cond (decide (k=28)) ⟨false,false,true,false,false,true,true,false⟩ (cond (decide (k=31)) ⟨false,false,false,false,true,false,true,false⟩ (cond (decide (k=29)||decide (k=30)||decide (k=32)||decide (k=35)) ⟨false,false,false,false,false,false,true,false⟩ ⟨false,false,false,false,false,false,false,false⟩))))))))))))))))))))))
theorem aRg (k:Int):aCk k=some (aCz k):=by
 unfold aCk aCz
 simp only [or3,or2,aA]
 simp only [aE6,Bool.or_assoc]
noncomputable def aCH (u:gX) (e:dP):Bool :=
 (if u.seq_ then inB e.Seq 1 2000 else decide (e.Seq=0))&&(if u.ref_ then inB e.Ref 1 2000 else decide (e.Ref=0))&&(u.n_||decide (e.N=0))&&(u.code_||decide (e.Code=0))&&(u.name_||decide (e.Name=[]))&&(u.key_||decide (e.Key=[]))&&kR e.Data&&(u.data_||decide (e.Data.Kind=0))&&(u.opts_||aBr e.Opts yF)
set_option maxHeartbeats 2000000 in
theorem aQx {e:dP} (h:jU e):aCj e=some (aCH (aCz e.Kind) e):=by
 have hd:dX e.Data:=h.2.2.2.2.2.2.2.2.2.1
 have ho:iL e.Opts:=h.2.2.2.2.2.2.2.2.2.2
 unfold aCj aCH
 rw [aRg,aA,show (dR.mk [] 0 0 0 0 0 0 0 0 [])=yF from rfl,uU ho,zH hd]
 simp only [aJ5]
 generalize aCz e.Kind=u
 obtain ⟨u1,u2,u3,u4,u5,u6,u7,u8⟩:=u
 simp only
 generalize inB e.Seq 1 2000=a1
 generalize inB e.Ref 1 2000=a2
 generalize decide (e.Seq=0)=b1
 generalize decide (e.Ref=0)=b2
 generalize decide (e.N=0)=b3
 generalize decide (e.Code=0)=b4
 generalize decide (e.Name=[])=b5
 generalize decide (e.Key=[])=b6
 generalize kR e.Data=b7
 generalize decide (e.Data.Kind=0)=b8
 generalize aBr e.Opts yF=b9
 have h1:∃ r,(if u1=true then a1 else b1)=r:=⟨_,rfl⟩
 cases u1
 ·
  cases u2
  ·
   cases b1 <;> cases b2 <;> simp [gd] <;> cases u3 <;> cases b3 <;> cases u4 <;> cases b4 <;> simp <;> cases u5 <;> cases b5 <;> cases u6 <;> cases b6 <;> simp <;> cases b7 <;> cases u7 <;> cases b8 <;> cases u8 <;> simp
  ·
   cases b1 <;> cases a2 <;> simp [gd] <;> cases u3 <;> cases b3 <;> cases u4 <;> cases b4 <;> simp <;> cases u5 <;> cases b5 <;> cases u6 <;> cases b6 <;> simp <;> cases b7 <;> cases u7 <;> cases b8 <;> cases u8 <;> simp
 ·
  cases u2
  ·
   cases a1 <;> cases b2 <;> simp [gd] <;> cases u3 <;> cases b3 <;> cases u4 <;> cases b4 <;> simp <;> cases u5 <;> cases b5 <;> cases u6 <;> cases b6 <;> simp <;> cases b7 <;> cases u7 <;> cases b8 <;> cases u8 <;> simp
  ·
   cases a1 <;> cases a2 <;> simp [gd] <;> cases u3 <;> cases b3 <;> cases u4 <;> cases b4 <;> simp <;> cases u5 <;> cases b5 <;> cases u6 <;> cases b6 <;> simp <;> cases b7 <;> cases u7 <;> cases b8 <;> cases u8 <;> simp
noncomputable def aIj (e:dP):Bool :=
 cond (decide (e.Kind=1)) (nL e.Name&&lJ e.Key&&(kR e.Data&&aB9 e.Data)&&inB e.N 0 4294967295) (cond (decide (e.Kind=2)) (decide (1≤e.N)) (cond (decide (e.Kind=5)) (inB e.Code 1 30) (cond (decide (e.Kind=8)) (inB e.N 1 1000) (cond (decide (e.Kind=11)) (inB e.Code 1 4)
 (cond (decide (e.Kind=10)||decide (e.Kind=22)||decide (e.Kind=25)) (decide ((e.Name.length:Int)≤4096)) (cond (decide (e.Kind=17)) (nL e.Name&&lJ e.Key) (cond (decide (e.Kind=20)) (vI e.Key).2 (cond (decide (e.Kind=26)) (lJ e.Key) (cond (decide (e.Kind=33)) (decide ((e.Name.length:Int)≤64)) true)))))))))
noncomputable def aHJ (e:dP):Bool :=
 inB e.Kind 1 35&&inB e.ID 0 2000&&inB e.Time 0 1099511627776&&aCH (aCz e.Kind) e&&(if wU e.Kind=0 then aIj e else mE ⟨wU e.Kind,e.Seq,e.Name,e.Key,e.N,e.Data,e.Opts⟩)
theorem aKP {e:dP} (h:jU e):aAj e=some (aHJ e):=by
 have hd:dX e.Data:=h.2.2.2.2.2.2.2.2.2.1
 have hk:okS e.Key:=h.2.2.2.2.2.2.2.2.1
 unfold okS at hk
 unfold aAj aHJ zO
 simp only [aJ5,aQx h,aIG,aFC,wK,aKQ (show e.Key.length≤9223372036854775807 by omega),aKR hd,aGS (show e.Key.length≤140737488355328 by omega),aA,aC4 (aUf h (aLs _))]
 cases inB e.Kind 1 35
 ·
  simp [gd]
 cases inB e.ID 0 2000
 ·
  simp [gd]
 cases inB e.Time 0 1099511627776
 ·
  simp [gd]
 cases aCH (aCz e.Kind) e
 ·
  simp [gd]
 simp only [cJ,bP,eJ,gd,cL,aA,dW,aBQ]
 split
 ·
  unfold aIj
  simp only [or3,aA]
  generalize nL e.Name=a
  generalize lJ e.Key=b
  generalize (kR e.Data&&aB9 e.Data)=c
  generalize inB e.N 0 4294967295=d
  have e1:((if (a==true)=true then some b else some default).bind fun (x4:Bool)=>(if ((cond a x4 false)==true)=true then some c else some default).bind fun (x6:Bool)=>(if ((cond (cond a x4 false) x6 false)==true)=true then some d else some default).bind fun (x8:Bool)=>some (cond (cond (cond a x4 false) x6 false) x8 false))=some (a&&b&&c&&d):=by
   cases a <;> cases b <;> cases c <;> rfl
  have e2:((if (a==true)=true then some b else some default).bind fun (x:Bool)=>some (cond a x false))=some (a&&b):=by cases a <;> rfl
  rw [e1,e2]
  simp only [aE6,Bool.or_assoc]
 ·
  rfl
theorem aPx {v:aK} (h:kR v=true):rT v sR=decide (v.Kind=0):=by
 rw [eF,aLF (hgt v) v sR (eP _),bU]
 constructor
 ·
  rintro rfl;rfl
 ·
  intro hk
  unfold kR at h
  simp only [aR] at h
  have h2:fmd false v=true:=by first | exact h.2 | exact h.1 | exact h.1.2 | exact h.2.1
  rw [aFM] at h2
  simp only [aR] at h2
  have h3:=h2.1
  unfold aDA at h3
  rw [bB hk] at h3
  simp only [aR,bU] at h3
  obtain ⟨⟨⟨a,b⟩,c⟩,d⟩:=h3
  cases v
  simp only at *
  subst hk a b
  rw [eM c,eM d]
  rfl
def AgE (k:Int):Prop:=∀ {sq rf n cd:Int}{nm ky:List UInt8}{d:aK}{op:dR},(kR d=true→rT d sR=decide (d.Kind=0))→(kR d&&(aC0 (aCy k) ⟨0,k,0,sq,rf,n,cd,nm,ky,d,op⟩&&(!(aCy k).seq_||inB sq 1 2000)&&(!(aCy k).ref_||inB rf 1 2000)&&aIi ⟨0,k,0,sq,rf,n,cd,nm,ky,d,op⟩))=(aCH (aCz k) ⟨0,k,0,sq,rf,n,cd,nm,ky,d,op⟩&&aIj ⟨0,k,0,sq,rf,n,cd,nm,ky,d,op⟩)
def AgC (k c:Int):Prop:=∀ {sq rf n cd:Int}{nm ky:List UInt8}{d:aK}{op:dR},(kR d=true→rT d sR=decide (d.Kind=0))→aOL ⟨0,k,0,sq,rf,n,cd,nm,ky,d,op⟩ c=(aCH (aCz k) ⟨0,k,0,sq,rf,n,cd,nm,ky,d,op⟩&&mE ⟨c,sq,nm,ky,n,d,op⟩)
set_option maxHeartbeats 4000000 in
theorem aVZ (k:Int) (hk:k=1∨k=2∨k=3∨k=4∨k=5∨k=6∨k=8):AgE k:=by
 rcases hk with rfl | rfl | rfl | rfl | rfl | rfl | rfl <;> (
  intro sq rf n cd nm ky d op hz
  unfold aC0 aCH aCy aCz aIi aIj
  simp only [Int.reduceEq,cG,dK,dM,bP,rV,kL,cL,dZ,jN,sY,dW,jK,cJ,iT]
  grind )
set_option maxHeartbeats 4000000 in
theorem aV0 (k:Int) (hk:k=9∨k=10∨k=11∨k=13∨k=15∨k=17∨k=20):AgE k:=by
 rcases hk with rfl | rfl | rfl | rfl | rfl | rfl | rfl <;> (
  intro sq rf n cd nm ky d op hz
  unfold aC0 aCH aCy aCz aIi aIj
  simp only [Int.reduceEq,cG,dK,dM,bP,rV,kL,cL,dZ,jN,sY,dW,jK,cJ,iT]
  grind )
set_option maxHeartbeats 4000000 in
theorem aV1 (k:Int) (hk:k=21∨k=22∨k=24∨k=25∨k=26∨k=33∨k=34):AgE k:=by
 rcases hk with rfl | rfl | rfl | rfl | rfl | rfl | rfl <;> (
  intro sq rf n cd nm ky d op hz
  unfold aC0 aCH aCy aCz aIi aIj
  simp only [Int.reduceEq,cG,dK,dM,bP,rV,kL,cL,dZ,jN,sY,dW,jK,cJ,iT]
  grind )
set_option maxHeartbeats 4000000 in
theorem aGm (k c:Int) (hk:(k=7∧c=1)∨(k=12∧c=2)∨(k=14∧c=3)∨(k=16∧c=4)∨(k=18∧c=7)∨(k=19∧c=5)∨(k=23∧c=6)∨(k=27∧c=8)∨(k=28∧c=9)∨(k=29∧c=10)∨(k=30∧c=11)∨(k=31∧c=12)∨(k=32∧c=13)∨(k=35∧c=14)):AgC k c:=by
 rcases hk with ⟨rfl,rfl⟩ | ⟨rfl,rfl⟩ | ⟨rfl,rfl⟩ | ⟨rfl,rfl⟩ | ⟨rfl,rfl⟩ | ⟨rfl,rfl⟩ | ⟨rfl,rfl⟩ | ⟨rfl,rfl⟩ | ⟨rfl,rfl⟩ | ⟨rfl,rfl⟩ | ⟨rfl,rfl⟩ | ⟨rfl,rfl⟩ | ⟨rfl,rfl⟩ | ⟨rfl,rfl⟩ <;> (
  intro sq rf n cd nm ky d op hz
  unfold aOL
  simp only
  cases hC:mE ⟨_,sq,nm,ky,n,d,op⟩
  ·
   simp
  ·
   unfold mE at hC
   simp only [lD,aEn,Int.reduceEq,cL,dZ,aR,eC,cJ,iT,sY,kL,true_and,bU] at hC
   unfold aCH aCz
   simp only [Int.reduceEq,cG,dK,dM,bP,rV,kL,cL,dZ,jN,sY,dW,jK,or_false,false_or,or_true,true_or]
   grind )
theorem aS5 {u:gX}{e:dP} (h:kR e.Data=false):aCH u e=false:=by unfold aCH;simp [h]
noncomputable def aJ7 (e:dP):Bool:=kR e.Data&&(if wU e.Kind=0 then aC0 (aCy e.Kind) e&&(!(aCy e.Kind).seq_||inB e.Seq 1 2000)&&(!(aCy e.Kind).ref_||inB e.Ref 1 2000)&&aIi e else aOL e (wU e.Kind))
noncomputable def aJ8 (e:dP):Bool:=aCH (aCz e.Kind) e&&(if wU e.Kind=0 then aIj e else mE ⟨wU e.Kind,e.Seq,e.Name,e.Key,e.N,e.Data,e.Opts⟩)
theorem aUB {k id t sq rf n cd:Int}{nm ky:List UInt8}{d:aK}{op:dR} (hk:wU k=0) (h:AgE k) (hz:kR d=true→rT d sR=decide (d.Kind=0)):aJ7 ⟨id,k,t,sq,rf,n,cd,nm,ky,d,op⟩=aJ8 ⟨id,k,t,sq,rf,n,cd,nm,ky,d,op⟩:=by
 unfold aJ7 aJ8
 simp only
 rw [bB hk,bB hk]
 exact h (sq:=sq) (rf:=rf) (n:=n) (cd:=cd) (nm:=nm) (ky:=ky) (op:=op) hz
theorem aGx {k c id t sq rf n cd:Int}{nm ky:List UInt8}{d:aK}{op:dR} (hk:wU k=c) (h0:¬c=0) (h:AgC k c) (hz:kR d=true→rT d sR=decide (d.Kind=0)):aJ7 ⟨id,k,t,sq,rf,n,cd,nm,ky,d,op⟩=aJ8 ⟨id,k,t,sq,rf,n,cd,nm,ky,d,op⟩:=by
 subst hk
 unfold aJ7 aJ8
 simp only
 rw [aY h0,aY h0]
 have h:=h (sq:=sq) (rf:=rf) (n:=n) (cd:=cd) (nm:=nm) (ky:=ky) (op:=op) hz
 cases hv:kR d
 ·
  rw [aS5 hv];rfl
 ·
  exact h
theorem aLk (e:dP):sU e=aHJ e:=by
 have hz:=@aPx e.Data
 have e1:sU e=(inB e.Kind 1 35&&inB e.ID 0 2000&&inB e.Time 0 1099511627776&&aJ7 e):=by unfold sU aJ7;simp only [tF]
 have e2:aHJ e=(inB e.Kind 1 35&&inB e.ID 0 2000&&inB e.Time 0 1099511627776&&aJ8 e):=by unfold aHJ aJ8;simp only [tF]
 rw [e1,e2]
 cases hk:inB e.Kind 1 35
 ·
  simp
 have hk2:1≤e.Kind∧e.Kind≤35:=by unfold inB at hk;simpa using hk
 have h:aJ7 e=aJ8 e:=by
  clear e1 e2 hk
  obtain ⟨id,kind,time,sq,rf,n,cd,nm,ky,d,op⟩:=e
  simp only at *
  have h:kind=1∨kind=2∨kind=3∨kind=4∨kind=5∨kind=6∨kind=7∨kind=8∨kind=9∨kind=10∨kind=11∨kind=12∨kind=13∨kind=14∨kind=15∨kind=16∨kind=17∨kind=18∨kind=19∨kind=20∨kind=21∨kind=22∨kind=23∨kind=24∨kind=25∨kind=26∨kind=27∨kind=28∨kind=29∨kind=30∨kind=31∨kind=32∨kind=33∨kind=34∨kind=35:=by omega
  rcases h with rfl | rfl | rfl | rfl | rfl | rfl | rfl | rfl | rfl | rfl | rfl | rfl | rfl | rfl | rfl | rfl | rfl | rfl | rfl | rfl | rfl | rfl | rfl | rfl | rfl | rfl | rfl | rfl | rfl | rfl | rfl | rfl | rfl | rfl | rfl <;>
  first | exact aUB rfl (aVZ _ (by decide)) hz | exact aGx (c:=1) rfl (by decide) (aGm _ _ (by decide)) hz | exact aUB rfl (aV0 _ (by decide)) hz | exact aGx (c:=2) rfl (by decide) (aGm _ _ (by decide)) hz | exact aGx (c:=3) rfl (by decide) (aGm _ _ (by decide)) hz | exact aGx (c:=4) rfl (by decide) (aGm _ _ (by decide)) hz | exact aGx (c:=7) rfl (by decide) (aGm _ _ (by decide)) hz | exact aGx (c:=5) rfl (by decide) (aGm _ _ (by decide)) hz | exact aUB rfl (aV1 _ (by decide)) hz | exact aGx (c:=6) rfl (by decide) (aGm _ _ (by decide)) hz | exact aGx (c:=8) rfl (by decide) (aGm _ _ (by decide)) hz | exact aGx (c:=9) rfl (by decide) (aGm _ _ (by decide)) hz | exact aGx (c:=10) rfl (by decide) (aGm _ _ (by decide)) hz | exact aGx (c:=11) rfl (by decide) (aGm _ _ (by decide)) hz | exact aGx (c:=12) rfl (by decide) (aGm _ _ (by decide)) hz | exact aGx (c:=13) rfl (by decide) (aGm _ _ (by decide)) hz | exact aGx (c:=14) rfl (by decide) (aGm _ _ (by decide)) hz
 rw [h]
def aWl (t:List UInt8) (ks:List (List UInt8)):Int:=ks.foldl (fun a k=>IntKind.i64.wrap (a+IntKind.i64.wrap (Int.tdiv (k.length:Int) 8))) (IntKind.i64.wrap (IntKind.i64.wrap (1+IntKind.i64.wrap (Int.tdiv (t.length:Int) 8))+(ks.length:Int)))
mutual
def s23:aK→Int
 | ⟨_,_,t,l,ks⟩=>aVD l (aWl t ks)
def aVD:List aK→Int→Int
 | [],a=>a
 | x :: l,a=>aVD l (IntKind.i64.wrap (a+s23 x))
end
theorem aGw {e:dP} (h:sU e=true):kR e.Data=true∧rZ e.Opts=true:=by
 unfold sU at h
 simp only [aR] at h
 refine ⟨h.1.2,?_⟩
 have h2:=h.2
 split at h2
 ·
  simp only [aR] at h2
  have h3:=h2.1.1.1
  unfold aC0 at h3
  simp only [aR] at h3
  rw [aFP h3.2]
  decide
 ·
  unfold aOL at h2
  simp only [aR] at h2
  exact (aAp h2.2).2
theorem aGI:∀ (n:Nat) (v:aK),hgt v≤n→5*nsz v≤PV.bulkRow (bO v):=by
 intro n
 induction n with
 | zero=>intro v h;have:=mK v;omega
 | succ n ih =>
  intro v h
  have hh:=mK v
  have key:∀ l:List aK,aHx l≤n→5*qM l≤PV.bulkRows (l.map bO):=by
   intro l
   induction l with
   | nil=>intro _;simp [qM]
   | cons x l ihl =>
    intro hl
    simp only [aHx] at hl
    have a1:=ihl (by omega)
    have a2:=ih x (by omega)
    simp only [qM,iN,PV.bulkRows];omega
  have:=key v.Items (by omega)
  rw [aHU,aHz];omega
theorem aDf {v:aK} (hr:kR v=true) (hb:nsz v≤1000000):nsz v≤1200:=by
 obtain ⟨d1,d2⟩:=aPH (hgt v) v (eP _) hb
 have hw:wth v=true:=by unfold kR at hr;simp only [aR] at hr;exact hr.1
 unfold wth at hw
 rw [d1,d2] at hw
 simp only [aR,bU] at hw
 omega
theorem aOW {r:aX}{e:dP}{rest:List UInt8} (h:At r (aD8 e++rest)) (he:jU e) (hr:sU e=true) (h1:e.Name.length≤4096) (h2:e.Key.length≤4096) (hn:nsz e.Data≤1200):∃ r',uN r=some (e,r')∧At r' rest:=by
 obtain ⟨p1,p2⟩:=aGw hr
 obtain ⟨q1,q2,q3⟩:=oO p1
 obtain ⟨k1,k2,k3,k4,k5,k6,k7,k8,k9,k10,k11⟩:=id he
 unfold aD8 vH at h
 rw [bB q3,bB p2] at h
 simp only [iM,oS,mH,dJ] at h
 have b:∀ {n:Int},uQ n→(-9223372036854775808:Int)≤n∧n≤9223372036854775807:=fun h=>h
 obtain ⟨r1,a1,l1⟩:=aAn (low:=-9223372036854775808) (high:=9223372036854775807) h k1 (b k1).1 (b k1).2
 obtain ⟨r2,a2,l2⟩:=aAn (low:=-9223372036854775808) (high:=9223372036854775807) l1 k2 (b k2).1 (b k2).2
 obtain ⟨r3,a3,l3⟩:=aAn (low:=-9223372036854775808) (high:=9223372036854775807) l2 k3 (b k3).1 (b k3).2
 obtain ⟨r4,a4,l4⟩:=aAn (low:=-9223372036854775808) (high:=9223372036854775807) l3 k4 (b k4).1 (b k4).2
 obtain ⟨r5,a5,l5⟩:=aAn (low:=-9223372036854775808) (high:=9223372036854775807) l4 k5 (b k5).1 (b k5).2
 obtain ⟨r6,a6,l6⟩:=aAn (low:=-9223372036854775808) (high:=9223372036854775807) l5 k6 (b k6).1 (b k6).2
 obtain ⟨r7,a7,l7⟩:=aAn (low:=-9223372036854775808) (high:=9223372036854775807) l6 k7 (b k7).1 (b k7).2
 obtain ⟨r8,a8,l8⟩:=aBP (most:=4096) l7 (by omega)
 obtain ⟨r9,a9,l9⟩:=aBP (most:=4096) l8 (by omega)
 obtain ⟨r10,a10,l10⟩:=xD l9 k10 p1 hn
 obtain ⟨r11,a11,l11⟩:=aIk l10 k11 p2
 refine ⟨r11,?_,l11⟩
 unfold uN
 rw [a1,aA,a2,aA,a3,aA,a4,aA,a5,aA,a6,aA,a7,aA,a8,aA,a9,aA,a10,aA,a11,aA]
 have hE:xJ (dP.mk e.ID e.Kind e.Time e.Seq e.Ref e.N e.Code e.Name e.Key e.Data e.Opts)=some true:=by rw [← hr];exact aEp he
 rw [wP l11]
 simp only [aA,hE]
 simp [gd,wP l11]
theorem aUy (c:cK):PV.bulkRow (bO c.Data)≤PV.bulkRow (eV c):=by
 rw [aHU]
 simp only [eV,PV.bulkRow,PV.bulk,PV.ls]
 omega
theorem aUV (q:cW):q.Workflow.length+q.Run.length+q.ID.length+q.Name.length+q.Parent.length+PV.bulkRow (bO q.Data)+PV.bulkRows (q.Commands.map eV)≤PV.bulkRow (nM q):=by
 rw [aHU]
 simp only [nM,PV.bulkRow,PV.bulk,PV.ls]
 omega
def qsm (q:cW):Prop:=q.Workflow.length≤2000000∧q.Run.length≤2000000∧q.ID.length≤2000000∧q.Name.length≤2000000∧q.Parent.length≤2000000∧nsz q.Data≤1000000∧∀ c∈q.Commands,nsz c.Data≤1000000
theorem aSs {q:cW} (hb:PV.bulkRow (nM q)≤1048576):qsm q:=by
 have h1:=aUV q
 have h2:=aGI _ q.Data (eP _)
 refine ⟨by omega,by omega,by omega,by omega,by omega,by omega,fun c hc=>?_⟩
 have h3:=aGt (row:=eV) hc
 have h4:=aUy c
 have h5:=aGI _ c.Data (eP _)
 omega
def aBM (q:cW):List (List UInt8):=[q.Workflow,q.Run,q.ID,q.Name]
def aBL (q:cW):List Int:=[q.Token,q.Event,q.Seq,q.N]
def aIB (q:cW):List UInt8:=mU q.Kind++mU q.Time++(aBM q).flatMap sX++(aBL q).flatMap mU++rO q.Data++mU q.Commands.length++q.Commands.flatMap aEo++sX q.Parent
theorem aBS {q:cW} (h:zZ q=true):kR q.Data=true∧q.Commands.length≤200∧q.Commands.all mE=true:=by
 unfold zZ at h
 simp only [aR,bU] at h
 obtain ⟨_,_,_,h4,_,_,_,_,_,_,_,h12,h13,_⟩:=h
 exact ⟨h4,h12,h13⟩
theorem aSq {q:cW} (h:nQ q) (hs:qsm q) (hr:zZ q=true):∀ c∈q.Commands,mC c∧mE c=true∧nsz c.Data≤1200:=fun c hc=>by
 obtain ⟨r1,r2,r3⟩:=aBS hr
 have hcr:=cI.1 r3 c hc
 exact ⟨h.2.2.2.2.2.2.2.2.2.2.2.2.1.2.2 c hc,hcr,aDf (aAp hcr).1 (hs.2.2.2.2.2.2 c hc)⟩
theorem aSr {q:cW} (h:nQ q) (hs:qsm q) (hr:zZ q=true):((aBM q).flatMap sX).length≤9000000∧((aBL q).flatMap mU).length≤40∧(rO q.Data).length≤10100000∧(q.Commands.flatMap aEo).length≤2200000000∧(∀ n∈aBL q,uQ n):=by
 obtain ⟨r1,r2,r3⟩:=aBS hr
 have hcm:=aSq h hs hr
 obtain ⟨k0,k1,k2,k3,k4,k5,k6,k7,k8,k9,k10,k11,k12,k13⟩:=h
 obtain ⟨s1,s2,s3,s4,s5,s6,s7⟩:=hs
 have a1:=oN (s:=q.Workflow) (by omega)
 have a2:=oN (s:=q.Run) (by omega)
 have a3:=oN (s:=q.ID) (by omega)
 have a4:=oN (s:=q.Name) (by omega)
 have b1:=kC k6
 have b2:=kC k7
 have b3:=kC k8
 have b4:=kC k9
 have c1:=aKk (hgt q.Data) q.Data (eP _) k10 (oO r1).1
 have c2:=aDf r1 s6
 have d1:=aIY aEo 11000000 q.Commands (fun c hc=>by obtain ⟨e1,e2,e3⟩:=hcm c hc;exact (aLi e1 e2 e3).1)
 refine ⟨?_,?_,by omega,by omega,?_⟩
 ·
  simp only [aBM,iM,oS,aF,jO];omega
 ·
  simp only [aBL,iM,oS,aF,jO];omega
 ·
  simp only [aBL,eT,rE,or_false]
  rintro n (rfl | rfl | rfl | rfl) <;> assumption
noncomputable def aL9 (q:cW):List UInt8 × Int:=if zZ q then (if 65536<(aIB q).length then ([],6) else (aIB q,0)) else ([],3)
theorem aJT {q:cW} (h:nQ q) (hs:qsm q):sC q=some (aL9 q)∧aDM q=some (aL9 q):=by
 cases hr:zZ q
 ·
  unfold sC aDM aL9
  rw [aA3 h,aFB h,← aLx,hr]
  exact ⟨rfl,rfl⟩
 ·
  obtain ⟨r1,r2,r3⟩:=aBS hr
  have hcm:=aSq h hs hr
  obtain ⟨l1,l2,l3,l4,l5⟩:=aSr h hs hr
  have hh:=h
  obtain ⟨k0,k1,k2,k3,k4,k5,k6,k7,k8,k9,k10,k11,k12,k13⟩:=h
  obtain ⟨s1,s2,s3,s4,s5,s6,s7⟩:=hs
  have b1:=kC k0
  have b2:=kC k1
  have okn:uQ (q.Commands.length:Int):=⟨by omega,by omega⟩
  have b3:=kC okn
  have b4:=oN (s:=q.Parent) (by omega)
  have hst:∀ s∈aBM q,s.length≤2000000:=by
   simp only [aBM,eT,rE,or_false]
   rintro s (rfl | rfl | rfl | rfl) <;> assumption
  have fin:∀ x:List UInt8,x=aIB q→cond (decide ((65536:Int)<(x.length:Int))) (some (([]:List UInt8),(6:Int))) (some (x,(0:Int)))=some (aL9 q):=fun x hx=>by
   subst hx
   unfold aL9
   rw [hr,bB rfl,dO]
   by_cases hl:65536<(aIB q).length
   ·
    rw [bB (by omega),bB hl]
   ·
    rw [aY (by omega),aY hl]
  constructor
  ·
   unfold sC
   rw [aA3 hh,hr]
   simp only [aA,cJ,bP]
   rw [aBB (by simp) k0,aA,iC,aBB (by omega) k1,aA,
    qG 1000000000000 (aBM q) sX _ (by simp only [aF];omega) (fun s i hi hs=>?_) (fun s=>?_),aA,
    qG 1000000000000 (aBL q) mU _ (by simp only [aF];omega) (fun s i hi hs=>?_) (fun s=>?_),aA,
    zT k10 (by simp only [aF];omega),(oO r1).2.2,bB rfl,aA,aBB (by simp only [aF];omega) okn,aA,
    qG 40000000000 q.Commands aEo _ (by simp only [aF];omega) (fun s i hi hs=>?_) (fun s=>?_),aA,aJQ (by simp only [aF];omega) (by omega),aA]
   ·
    exact fin _ (by unfold aIB;simp only [dJ])
   ·
    unfold wZ
    obtain ⟨e1,e2,e3⟩:=hcm _ (bN hi)
    simp only [aF] at hs
    rw [dO,bB (by simp only;omega),iJ hi,aA,(aId e1 e2 e3 (by simp only;omega)).1,aA,nV hi hh.2.2.2.2.2.2.2.2.2.2.2.2.1.1]
   ·
    unfold wZ
    rw [dO,aY (by simp only;omega)]
   ·
    unfold wY
    simp only [aF] at hs
    rw [dO,bB (by simp only [aBL] at hi;simp only;omega),show mP [q.Token,q.Event,q.Seq,q.N] (i:Int)=some (aBL q)[i] from iJ hi,aA,aBB (by simp only;omega) (l5 _ (bN hi)),aA,nV hi (by simp [aBL])]
   ·
    unfold wY
    rw [dO,aY (by simp [aBL])]
   ·
    unfold wX
    simp only [aF] at hs
    have:=hst _ (bN hi)
    rw [dO,bB (by simp only [aBM] at hi;simp only;omega),show mP [q.Workflow,q.Run,q.ID,q.Name] (i:Int)=some (aBM q)[i] from iJ hi,aA,aJQ (by simp only;omega) (by omega),aA,nV hi (by simp [aBM])]
   ·
    unfold wX
    rw [dO,aY (by simp [aBM])]
  ·
   unfold aDM
   rw [aFB hh,← aLx,hr]
   simp only [aA,cJ,bP]
   rw [aBu (by simp) k0,aA,iC,aBu (by omega) k1,aA,
    qG 1000000000000 (aBM q) sX _ (by simp only [aF];omega) (fun s i hi hs=>?_) (fun s=>?_),aA,
    qG 1000000000000 (aBL q) mU _ (by simp only [aF];omega) (fun s i hi hs=>?_) (fun s=>?_),aA,
    aBT k10 (by simp only [aF];omega),(oO r1).2.2,bB rfl,aA,aBu (by simp only [aF];omega) okn,aA,
    qG 40000000000 q.Commands aEo _ (by simp only [aF];omega) (fun s i hi hs=>?_) (fun s=>?_),aA,aEK (by simp only [aF];omega) (by omega),aA]
   ·
    exact fin _ (by unfold aIB;simp only [dJ])
   ·
    unfold aBF
    obtain ⟨e1,e2,e3⟩:=hcm _ (bN hi)
    simp only [aF] at hs
    rw [dO,bB (by simp only;omega),iJ hi,aA,(aId e1 e2 e3 (by simp only;omega)).2,aA,nV hi hh.2.2.2.2.2.2.2.2.2.2.2.2.1.1]
   ·
    unfold aBF
    rw [dO,aY (by simp only;omega)]
   ·
    unfold aBE
    simp only [aF] at hs
    rw [dO,bB (by simp only [aBL] at hi;simp only;omega),show mP [q.Token,q.Event,q.Seq,q.N] (i:Int)=some (aBL q)[i] from iJ hi,aA,aBu (by simp only;omega) (l5 _ (bN hi)),aA,nV hi (by simp [aBL])]
   ·
    unfold aBE
    rw [dO,aY (by simp [aBL])]
   ·
    unfold aBD
    simp only [aF] at hs
    have:=hst _ (bN hi)
    rw [dO,bB (by simp only [aBM] at hi;simp only;omega),show mP [q.Workflow,q.Run,q.ID,q.Name] (i:Int)=some (aBM q)[i] from iJ hi,aA,aEK (by simp only;omega) (by omega),aA,nV hi (by simp [aBM])]
   ·
    unfold aBD
    rw [dO,aY (by simp [aBM])]
def zV:aK:=⟨0,0,[],[],[]⟩
theorem aUh:dX zV:=by
 refine (gF _).2 ⟨?_,?_,?_,?_,?_⟩ <;> simp [zV,uQ,okS,aEy]
def zP:dR:=⟨[],0,0,0,0,0,0,0,0,[]⟩
theorem aUg:iL zP:=by
 simp [iL,zP,uQ,okS,aEy]
theorem aMa {e:dP} (h:jU e):aAj e=some (sU e):=by rw [aKP h,aLk]
def aSX (r r':aX) (x:List UInt8):Prop:=∀ rest,At r' rest→At r (x++rest)
theorem aSX.trans {r s t:aX}{x y:List UInt8} (h:aSX r s x) (k:aSX s t y):aSX r t (x++y):=fun rest ht=>by rw [dJ];exact h _ (k _ ht)
theorem aQV {l:List UInt8}{low high:Int} (h:(rM l low high).2.2≠0):(rM l low high).1=0:=by
 unfold rM at h ⊢
 split
 ·
  rfl
 ·
  rename_i w n hs
  rw [hs] at h
  simp only at h ⊢
  split
  ·
   rfl
  ·
   rename_i hc
   rw [aY hc] at h
   exact absurd rfl h
theorem aR1 {e e':Int}{r r':aX}{w w':jQ}{x low high:Int} (hl:aJi e r w) (hl':aJi e' r' w') (h:fN low high r=some (x,r')) (he:e'≠0):x=0:=by
 obtain ⟨b,a,hb,ha,rfl,rfl⟩:=hl
 by_cases h0:e=0
 ·
  subst h0
  rw [aJD ha hb] at h
  cases h
  obtain ⟨b',a',_,_,h3,_⟩:=hl'
  unfold aDb at h3
  simp only [aX.mk.injEq] at h3
  have:=h3.2.2.1
  exact aQV (by omega)
 ·
  have:fN low high ⟨b,a,e,true⟩=some (0,⟨b,a,e,true⟩):=by unfold fN;rw [aGv];simp [h0]
  rw [this] at h
  cases h
  rfl
theorem le_any {e:Int}{r:aX}{w:jQ} (h:aJi e r w):∃ x e' r' w',jH r=some (x,r')∧aJ2 w=some (x,w')∧aJi e' r' w'∧uQ x∧(e'≠0→x=0):=by
 obtain ⟨x,e',r',w',h1,h2,h3,h4,h5,h6⟩:=aR9 (-9223372036854775808) 9223372036854775807 h
 exact ⟨x,e',r',w',by unfold jH;rw [h1];rfl,by unfold aJ2;rw [h2];rfl,h3,h4,fun he=>aR1 h h3 h1 he⟩
theorem aN0 {l:List dP} (h:aEy 272 jU l):fQ l=some (l.any fun c=>!sU c):=by
 unfold fQ iB
 obtain ⟨x,h1,h2⟩:=aAY (body:=fR l) l (fun c=>!sU c) (fun i hi=>by
  unfold fR tQ
  rw [dO,bB (by omega),iJ hi,aA,aEp (h.2.2 _ (bN hi)),aA,aA,nV hi h.1]
  cases sU l[i] <;> rfl) (by
  unfold fR
  rw [dO,aY (by omega)])
 rw [h1,aA,h2]
noncomputable def aB3 (a:iI):Bool:=inB a.Err 0 30&&(aDN a.Run&&(decide (0≤a.Token)&&(kR a.Data&&(decide (a.Events.length≤2000)&&a.Events.all sU))))
theorem aC5 {a:iI} (h:vJ a):pL a=some (aB3 a):=by
 obtain ⟨h1,h2,h3,h4,h5,h6⟩:=h
 have hr:a.Run.length≤140737488355328:=hG h2 (by decide)
 unfold pL aB3
 have e1:(a.Events.any fun c=>!sU c)=!a.Events.all sU:=by rw [eF];simp
 have e2:decide ((a.Events.length:Int)≤2000)=decide (a.Events.length≤2000):=by rw [eF];simp;omega
 rw [zI,aCn hr,aAM h5,aN0 h6,e1,e2,aA]
 generalize inB a.Err 0 30=b1
 generalize aDN a.Run=b2
 generalize decide (0≤a.Token)=b3
 generalize kR a.Data=b4
 generalize decide (a.Events.length≤2000)=b5
 generalize a.Events.all sU=b6
 cases b1 <;> cases b2 <;> cases b3 <;> cases b4 <;> cases b5 <;> cases b6 <;> rfl
theorem aDk {a:iI} (h:vJ a):uT a=some (aB3 a):=by
 obtain ⟨h1,h2,h3,h4,h5,h6⟩:=h
 have hr:a.Run.length≤140737488355328:=hG h2 (by decide)
 unfold uT aB3
 have e2:decide ((a.Events.length:Int)≤2000)=decide (a.Events.length≤2000):=by rw [eF];simp;omega
 rw [aFN a.Events sU false (fun i hi=>?_) ?_,aA,aJ1,aEH hr,zH h5,e2,aA]
 ·
  generalize inB a.Err 0 30=b1
  generalize aDN a.Run=b2
  generalize decide (0≤a.Token)=b3
  generalize kR a.Data=b4
  generalize decide (a.Events.length≤2000)=b5
  generalize a.Events.all sU=b6
  cases b1 <;> cases b2 <;> cases b3 <;> cases b4 <;> cases b5 <;> cases b6 <;> rfl
 ·
  unfold uH
  rw [dO,aY (by omega)]
 ·
  unfold uH
  rw [dO,bB (by omega),iJ hi,aA,aMa (h6.2.2 _ (bN hi)),aA,nV hi h6.1]
  cases sU a.Events[i] <;> rfl
theorem aGV {a:iI} (h:vJ a):wF a a=some true:=by
 obtain ⟨h1,h2,h3,h4,h5,h6⟩:=h
 unfold wF
 rw [aCm h5,aA6,aFN a.Events (fun _=>true) false (fun i hi=>?_) ?_]
 ·
  simp [gd,Fl.next]
 ·
  unfold vO
  rw [dO,aY (by omega)]
 ·
  unfold vO
  rw [dO,bB (by omega),iJ hi,aA,aA,aMf (h6.2.2 _ (bN hi)),aOT,aA,nV hi h6.1]
  rfl
def zQ:cW:=⟨0,0,[],[],[],[],0,0,0,0,zV,zP,[],[]⟩

/- Plain laws: what the functions compute, with no program in sight. -/
import Derived.Test.YtnigjppddilpcaaGreatDoorGEPP3
import Derived.Test.YtnigjppddilpcaaGreatDoorGEPP1
import Derived.Test.YtnigjppddilpcaaGreatDoorGEF4
import Derived.Test.YtnigjppddilpcaaGreatDoorGEPP0
import Derived.Test.YtnigjppddilpcaaGreatDoorGEF10
import Derived.Test.YtnigjppddilpcaaGreatDoorGEF6
import Derived.Test.YtnigjppddilpcaaGreatDoorGEF14
import Derived.Test.YtnigjppddilpcaaGreatDoorGEF17
import Derived.Test.YtnigjppddilpcaaGreatDoorGEF15
import Derived.Test.YtnigjppddilpcaaGreatDoorGEF18
namespace Go.Proofs.YtnigjppddilpcaaGreatDoor
open Go Abs
set_option linter.unusedSimpArgs false
set_option linter.unusedVariables false
theorem aTm {s:List UInt8} (h:(vI s).2=true):s.length≤20:=by
 rcases aEw s with ⟨v,h1,h2,h3,h4⟩ | ⟨h1,h2⟩
 ·
  rw [← h3,aG0 h1]
  have:=aE7 18 v.toNat (by omega)
  simp only [fB];omega
 ·
  rw [h2] at h;cases h
theorem nmK:∀ i:Fin 36,(aCz (i.1:Int)).name_=true→wU (i.1:Int)=0→i.1=1∨i.1=10∨i.1=22∨i.1=25∨i.1=17∨i.1=33:=by decide +kernel
theorem kyK:∀ i:Fin 36,(aCz (i.1:Int)).key_=true→wU (i.1:Int)=0→i.1=1∨i.1=17∨i.1=20∨i.1=26:=by decide +kernel
theorem aO0 {s:List UInt8} (h:lJ s=true):s.length≤64:=by
 unfold lJ at h
 simp only [aR,bU] at h
 exact h.1.2
theorem aNg {e:dP} (h:sU e=true):e.Name.length≤4096∧e.Key.length≤4096:=by
 rw [aLk] at h
 unfold aHJ at h
 simp only [aR] at h
 obtain ⟨⟨⟨⟨h1,h2⟩,h3⟩,h4⟩,h5⟩:=h
 split at h5
 ·
  rename_i hc
  unfold aCH at h4
  simp only [aR,eC,bU] at h4
  obtain ⟨⟨⟨⟨⟨⟨⟨⟨s1,s2⟩,s3⟩,s4⟩,hn⟩,hk⟩,hv⟩,_⟩,_⟩:=h4
  unfold inB at h1
  simp only [aR,bU] at h1
  have n1:=nmK ⟨e.Kind.toNat,by omega⟩
  have n2:=kyK ⟨e.Kind.toNat,by omega⟩
  simp only at n1 n2
  rw [show ((e.Kind.toNat:Nat):Int)=e.Kind by omega] at n1 n2
  unfold aIj at h5
  constructor
  ·
   rcases hn with hn | hn
   ·
    have:=n1 hn hc
    by_cases k1:e.Kind=1
    ·
     simp only [k1,cG,dM,aR] at h5
     have:=aCd h5.1.1.1;omega
    by_cases k17:e.Kind=17
    ·
     simp [k17] at h5
     have:=aCd h5.1;omega
    by_cases k33:e.Kind=33
    ·
     simp [k33] at h5
     omega
    have hk:e.Kind=10∨e.Kind=22∨e.Kind=25:=by omega
    rcases hk with hk | hk | hk <;> simp [hk] at h5 <;> omega
   ·
    rw [hn];simp
  ·
   rcases hk with hk | hk
   ·
    have:=n2 hk hc
    by_cases k1:e.Kind=1
    ·
     simp only [k1,cG,dM,aR] at h5
     have:=aO0 h5.1.1.2;omega
    by_cases k17:e.Kind=17
    ·
     simp [k17] at h5
     have:=aO0 h5.2;omega
    by_cases k20:e.Kind=20
    ·
     simp [k20] at h5
     have:=aTm h5;omega
    have hk:e.Kind=26:=by omega
    simp [hk] at h5
    have:=aO0 h5;omega
   ·
    rw [hk];simp
 ·
  have:=aCI h5
  simp only at this
  omega
theorem aUe (a:BitVec 32):BitVec.ofInt 32 (a.toNat:Int)=a:=by rw [BitVec.ofInt_natCast];simp
theorem w32 {n:Nat} (h:n<4294967296):IntKind.u32.wrap (n:Int)=(n:Int):=by
 simp only [IntKind.wrap,IntKind.bits,IntKind.signed]
 simp
 omega
theorem x32 (a b:BitVec 32):lR .xor .u32 (a.toNat:Int) (b.toNat:Int)=((a ^^^ b).toNat:Int):=by
 show IntKind.u32.wrap ((BitVec.ofInt 32 (a.toNat:Int) ^^^ BitVec.ofInt 32 (b.toNat:Int)).toNat:Int)=_
 rw [aUe,aUe,w32 (a ^^^ b).isLt]
noncomputable def aUw (l:List dP):List UInt8:=mU l.length++l.flatMap aD8
theorem aQz {l:List dP} (h:aEy 272 jU l) (hb:PV.bulkRows (l.map eU)≤1048576) (hn:l.length≤2000):(aUw l).length≤850000000:=by
 have key:∀ m:List dP,(∀ e∈m,jU e)→PV.bulkRows (m.map eU)≤1048576→(m.flatMap aD8).length≤400000*m.length+20*PV.bulkRows (m.map eU):=by
  intro m
  induction m with
  | nil=>intro _ _;simp
  | cons e m ih =>
   intro hm hb
   simp only [iN,PV.bulkRows] at hb ⊢
   have a1:=ih (fun x hx=>hm x (by simp [hx])) (by omega)
   have a2:=aQG (hm e (by simp)) (by omega)
   simp only [iM,aF,fB];omega
 have h1:=key l h.2.2 hb
 have h2:=aAr (n:=l.length) h.1
 unfold aUw
 simp only [aF];omega
theorem aRy {r:aX} (h:At r []):oZ r=some 0:=by
 obtain ⟨b,a,h1,h2,rfl,h3⟩:=h
 have:¬a<b.length:=fun hh=>by
  have:=qB List.length h3
  simp only [lX,jO] at this;omega
 unfold oZ gN
 simp only [aA,cG,cJ,bP]
 rw [dO,aY (by omega)]
def aRR (e:dP):Prop:=sU e=true∧e.Name.length≤4096∧e.Key.length≤4096∧nsz e.Data≤1200
theorem aB5 {r:aX}{n:Int}{rest:List UInt8} (h:At r (mU n++rest)) (hn:uQ n):∃ r',jH r=some (n,r')∧At r' rest:=by
 obtain ⟨r',h1,h2⟩:=aAn (low:=-9223372036854775808) (high:=9223372036854775807) h hn hn.1 hn.2
 exact ⟨r',by unfold jH;rw [h1];rfl,h2⟩
theorem aHn {r:aX}{s rest:List UInt8} (h:At r (sX s++rest)) (hs:s.length≤4096):∃ r',pS r=some (s,r')∧At r' rest:=by
 obtain ⟨r',h1,h2⟩:=aBP (most:=4096) h (by omega)
 exact ⟨r',by unfold pS;rw [h1];rfl,h2⟩
theorem aQp {r:aX}{s:List UInt8} (h:At r s) (hs:s≠[]):oZ r=some 3:=by
 obtain ⟨b,a,h1,h2,rfl,rfl⟩:=h
 have:a<b.length:=qX fun hh=>hs (pA (by omega))
 unfold oZ gN
 simp only [aA,cG,cJ,bP]
 rw [dO,bB (by omega)]
theorem aLS {r:aX}{l:List cK}{rest:List UInt8} (h:At r (mU l.length++(l.flatMap aEo++rest))) (hl:l.length≤200) (hc:∀ c∈l,mC c∧mE c=true∧nsz c.Data≤1200):∃ r',iU 200 r=some (l,r')∧At r' rest:=by
 obtain ⟨r1,a1,l1⟩:=aB5 h ⟨by omega,by omega⟩
 have hin:inB (l.length:Int) 0 200=true:=by unfold inB;simp;omega
 have hg:(gd ((decide ((0:Int)=(0:Int)))==true) (some true)).bind (fun (b:Bool)=>cond (cond (decide ((0:Int)=(0:Int))) (!b) false) ((lF (3:Int) r1).bind fun (x:aX)=>some x) (some r1))=some r1:=by simp [gd]
 have key:∃ x,gL (jI ((l.length:Int),r1)) (([]:List cK),(0:Int),r1)=some x∧x.1=l∧At x.2 rest:=by
  refine yJ (fun s=>∃ i:Nat,s.1=l.take i∧s.2.1=(i:Int)∧i≤l.length∧At s.2.2 ((l.drop i).flatMap aEo++rest)) (fun s=>l.length - s.2.1.toNat) _ ?_ _ ⟨0,rfl,rfl,by omega,l1⟩
  rintro ⟨acc,i0,r2⟩ ⟨i,ha,hi0,hi,hr⟩
  simp only at ha hi0 hr
  subst ha hi0
  unfold jI
  simp only
  by_cases hlt:i<l.length
  ·
   rw [aDo aEo l i hlt,dJ] at hr
   obtain ⟨r3,d1,d2⟩:=(by obtain ⟨q1,q2,q3⟩:=hc _ (bN hlt);exact aRE hr q1 q2 q3)
   rw [dO,bB (by omega),wP hr,aA]
   simp only [cG,dM,aA,Fl.next]
   rw [d1,aA,wO (by simp only [nC,fB,jO];omega),aA]
   refine .inl ⟨_,rfl,⟨i+1,?_,nV hlt (by omega),hlt,d2⟩,by simp only;rw [nV hlt (by omega)];simp only [kN];omega⟩
   simp only
   rw [fF hlt]
  ·
   obtain rfl:i=l.length:=by omega
   rw [dO,aY (by omega)]
   refine .inr ⟨_,rfl,kY,?_⟩
   rw [List.drop_length] at hr
   exact hr
 obtain ⟨⟨m,r4⟩,k1,k2,k3⟩:=key
 simp only at k2 k3
 subst k2
 unfold iU
 rw [a1,aA]
 simp only
 rw [wP l1,aA,zI,hin,hg,aA,k1,aA]
 exact ⟨r4,rfl,k3⟩
theorem aLT {r:aX}{l:List dP}{rest:List UInt8} (h:At r (mU l.length++(l.flatMap aD8++rest))) (hl:l.length≤2000) (hc:∀ c∈l,jU c∧aRR c):∃ r',iV 2000 r=some (l,r')∧At r' rest:=by
 obtain ⟨r1,a1,l1⟩:=aB5 h ⟨by omega,by omega⟩
 have hin:inB (l.length:Int) 0 2000=true:=by unfold inB;simp;omega
 have hg:(gd ((decide ((0:Int)=(0:Int)))==true) (some true)).bind (fun (b:Bool)=>cond (cond (decide ((0:Int)=(0:Int))) (!b) false) ((lF (3:Int) r1).bind fun (x:aX)=>some x) (some r1))=some r1:=by simp [gd]
 have key:∃ x,gL (jJ ((l.length:Int),r1)) (([]:List dP),(0:Int),r1)=some x∧x.1=l∧At x.2 rest:=by
  refine yJ (fun s=>∃ i:Nat,s.1=l.take i∧s.2.1=(i:Int)∧i≤l.length∧At s.2.2 ((l.drop i).flatMap aD8++rest)) (fun s=>l.length - s.2.1.toNat) _ ?_ _ ⟨0,rfl,rfl,by omega,l1⟩
  rintro ⟨acc,i0,r2⟩ ⟨i,ha,hi0,hi,hr⟩
  simp only at ha hi0 hr
  subst ha hi0
  unfold jJ
  simp only
  by_cases hlt:i<l.length
  ·
   rw [aDo aD8 l i hlt,dJ] at hr
   obtain ⟨r3,d1,d2⟩:=(by obtain ⟨q0,q1,q2,q3,q4⟩:=hc _ (bN hlt);exact aOW hr q0 q1 q2 q3 q4)
   rw [dO,bB (by omega),wP hr,aA]
   simp only [cG,dM,aA,Fl.next]
   rw [d1,aA,wO (by simp only [nC,fB,jO];omega),aA]
   refine .inl ⟨_,rfl,⟨i+1,?_,nV hlt (by omega),hlt,d2⟩,by simp only;rw [nV hlt (by omega)];simp only [kN];omega⟩
   simp only
   rw [fF hlt]
  ·
   obtain rfl:i=l.length:=by omega
   rw [dO,aY (by omega)]
   refine .inr ⟨_,rfl,kY,?_⟩
   rw [List.drop_length] at hr
   exact hr
 obtain ⟨⟨m,r4⟩,k1,k2,k3⟩:=key
 simp only at k2 k3
 subst k2
 unfold iV
 rw [a1,aA]
 simp only
 rw [wP l1,aA,zI,hin,hg,aA,k1,aA]
 exact ⟨r4,rfl,k3⟩
theorem aMj {s:List UInt8} (h:aDN s=true):s.length≤4096:=by
 unfold aDN at h
 simp only [eC,bU] at h
 rcases h with h | h
 ·
  rw [h];simp
 ·
  rcases aEw s with ⟨v,h1,h2,h3,h4⟩ | ⟨h1,h2⟩
  ·
   rw [← h3,aG0 h1]
   have:=aE7 18 v.toNat (by omega)
   simp only [fB];omega
  ·
   rw [h2] at h;cases h
theorem idK:∀ i:Fin 18,(vE (i.1:Int)).id_=true→i.1=1∨i.1=2∨i.1=3∨i.1=5∨i.1=15:=by decide
theorem aVB {q:cW} (hr:zZ q=true):q.Workflow.length≤4096∧q.Run.length≤4096∧q.ID.length≤4096∧q.Name.length≤4096∧q.Parent.length≤4096∧q.Opts=zP:=by
 unfold zZ at hr
 simp only [aR,bU] at hr
 obtain ⟨h1,h2,h3,h4,h5,h6,h7,h8,h9,h10,h11,h12,h13,h14,h15⟩:=hr
 unfold aBC at h3
 simp only [aR,eC,bU] at h3
 obtain ⟨⟨⟨⟨⟨⟨⟨⟨⟨b1,b2⟩,b3⟩,b4⟩,b5⟩,b6⟩,b7⟩,b8⟩,b9⟩,b10⟩:=h3
 have hi:∀ {s:List UInt8},lJ s=true→s.length≤64:=fun h=>by
  unfold lJ at h
  simp only [aR,bU] at h
  exact h.1.2
 refine ⟨?_,aMj h6,?_,?_,?_,aFP b10⟩
 ·
  split at h5
  ·
   simp only [bU] at h5;rw [h5];simp
  ·
   have:=hi h5;omega
 ·
  rcases b1 with b1 | b1
  ·
   unfold inB at h1
   simp only [aR,bU] at h1
   have hk:=idK ⟨q.Kind.toNat,by omega⟩
   simp only at hk
   rw [show ((q.Kind.toNat:Nat):Int)=q.Kind by omega] at hk
   have hk:=hk b1
   unfold aDJ at h15
   by_cases hk15:q.Kind=15
   ·
    rw [bB hk15] at h15
    simp only [aR] at h15
    exact aMj h15.1
   ·
    rw [aY hk15,aY (by omega),aY (by omega),aY (by omega),b1] at h15
    simp only [aR,cJ,kL] at h15
    have:=hi h15.1
    omega
  ·
   rw [b1];simp
 ·
  rcases b2 with b2 | b2
  ·
   unfold aDJ at h15
   split at h15
   ·
    simp only [aR,bU] at h15;omega
   ·
    split at h15
    ·
     simp only [bU] at h15;omega
    ·
     split at h15
     ·
      simp only [bU] at h15;omega
     ·
      split at h15
      ·
       have:=hi h15;omega
      ·
       rw [b2] at h15
       simp only [aR,cJ,kL] at h15
       have:=aCd h15.2
       omega
  ·
   rw [b2];simp
 ·
  unfold aKK at h11
  simp only [aR,eC,bU] at h11
  rcases h11 with h | h
  ·
   rw [h];simp
  ·
   omega
theorem aMi {q:cW}{s:List UInt8} (h:nQ q) (hs:qsm q) (hr:zZ q=true) (hl:(aIB q++s).length≤1000000000):xU (aIB q++s)=some (if s=[] then (q,0) else (zQ,3)):=by
 obtain ⟨l1,l2,l3,l4,l5,l6⟩:=aVB hr
 obtain ⟨p1,p2,p3⟩:=aBS hr
 have hcm:=aSq h hs hr
 have hh:=h
 obtain ⟨k0,k1,k2,k3,k4,k5,k6,k7,k8,k9,k10,k11,k12,k13⟩:=h
 obtain ⟨r,o1,o2⟩:=aPD hl
 have he:aIB q++s=mU q.Kind++(mU q.Time++(sX q.Workflow++(sX q.Run++(sX q.ID++(sX q.Name++(mU q.Token++(mU q.Event++(mU q.Seq++(mU q.N++(rO q.Data++(mU q.Commands.length++(q.Commands.flatMap aEo++(sX q.Parent++s))))))))))))):=by
  unfold aIB aBM aBL
  simp only [iM,oS,mH,dJ]
 rw [he] at o2
 obtain ⟨r1,a1,t1⟩:=aB5 o2 k0
 obtain ⟨r2,a2,t2⟩:=aB5 t1 k1
 obtain ⟨r3,a3,t3⟩:=aHn t2 l1
 obtain ⟨r4,a4,t4⟩:=aHn t3 l2
 obtain ⟨r5,a5,t5⟩:=aHn t4 l3
 obtain ⟨r6,a6,t6⟩:=aHn t5 l4
 obtain ⟨r7,a7,t7⟩:=aB5 t6 k6
 obtain ⟨r8,a8,t8⟩:=aB5 t7 k7
 obtain ⟨r9,a9,t9⟩:=aB5 t8 k8
 obtain ⟨r10,a10,t10⟩:=aB5 t9 k9
 obtain ⟨r11,a11,t11⟩:=xD t10 k10 p1 (aDf p1 hs.2.2.2.2.2.1)
 obtain ⟨r12,a12,t12⟩:=aLS t11 p2 hcm
 obtain ⟨r13,a13,t13⟩:=aHn t12 l5
 unfold xU
 rw [show (dR.mk [] 0 0 0 0 0 0 0 0 [])=zP from rfl,show (aK.mk 0 0 [] [] [])=zV from rfl,show (cW.mk 0 0 [] [] [] [] 0 0 0 0 zV zP [] [])=zQ from rfl]
 rw [o1,aA,a1,aA,a2,aA,a3,aA,a4,aA,a5,aA,a6,aA,a7,aA,a8,aA,a9,aA,a10,aA,a11,aA,a12,aA,a13,aA]
 have hq:(cW.mk q.Kind q.Time q.Workflow q.Run q.ID q.Name q.Token q.Event q.Seq q.N q.Data zP q.Commands q.Parent)=q:=by rw [← l6]
 rw [hq]
 by_cases hs0:s=[]
 ·
  subst hs0
  rw [aRy t13,aA,aA3 hh,hr]
  simp
 ·
  rw [aQp t13 hs0,aA]
  simp [hs0]
def q14:cW:=⟨14,3,[],[],[],[],0,0,0,0,⟨0,0,[],[],[]⟩,⟨[],0,0,0,0,0,0,0,0,[]⟩,[],[]⟩
def q02:cW:=⟨2,0,[119],[],[97,47,98],[115],0,0,0,0,⟨0,0,[],[],[]⟩,⟨[],0,0,0,0,0,0,0,0,[]⟩,[],[]⟩
theorem aO4:nQ q14:=⟨by simp [q14,uQ],by simp [q14,uQ],by simp [q14,okS],by simp [q14,okS],by simp [q14,okS],by simp [q14,okS],by simp [q14,uQ],by simp [q14,uQ],by simp [q14,uQ],by simp [q14,uQ],aUh,aUg,⟨by simp [q14],by simp [q14],by simp [q14]⟩,by simp [q14,okS]⟩
theorem aUP:nQ q02:=⟨by simp [q02,uQ],by simp [q02,uQ],by simp [q02,okS],by simp [q02,okS],by simp [q02,okS],by simp [q02,okS],by simp [q02,uQ],by simp [q02,uQ],by simp [q02,uQ],by simp [q02,uQ],aUh,aUg,⟨by simp [q02],by simp [q02],by simp [q02]⟩,by simp [q02,okS]⟩
theorem aSF:qsm q14:=aSs (by decide +kernel)
theorem aU6:qsm q02:=aSs (by decide +kernel)
theorem aUo:zZ q14=true:=by decide +kernel
theorem aVC:zZ q02=false:=by decide +kernel
theorem aRO:aIB q14=[28,6,0,0,0,0,0,0,0,0,0,0,0]:=by decide +kernel
theorem aQf:xL=some true:=by
 unfold xL
 rw [show cW.mk 14 _ _ _ _ _ _ _ _ _ _ _ _ _=q14 from rfl,show cW.mk 2 _ _ _ _ _ _ _ _ _ _ _ _ _=q02 from rfl,(aJT aO4 aSF).1,(aJT aUP aU6).1]
 have h1:aL9 q14=(aIB q14,0):=by unfold aL9;rw [aUo,bB rfl,aY (by rw [aRO];decide)]
 have h2:aL9 q02=([],3):=by unfold aL9;rw [aVC];rfl
 have h3:=aMi (s:=[]) aO4 aSF aUo (by rw [aRO];decide)
 rw [mH,bB rfl] at h3
 rw [h1,h2,aA]
 simp only
 rw [h3,aA,aA,aJ0 aO4,aRO]
 rfl
theorem aOn (a:iI):a.Run.length+PV.bulkRow (bO a.Data)+PV.bulkRows (a.Events.map eU)≤PV.bulkRow (lY a):=by
 rw [aHU]
 simp only [lY,PV.bulkRow,PV.bulk,PV.ls]
 omega
noncomputable def aLO (a:iI):List UInt8:=mU a.Err++(sX a.Run++(mU a.Token++(mU a.N++(rO a.Data++(mU a.Events.length++a.Events.flatMap aD8)))))
noncomputable def aLJ (a:iI):List UInt8 × Int:=if aB3 a then (aLO a,0) else ([],3)
theorem aDz {a:iI} (h:aB3 a=true):aDN a.Run=true∧kR a.Data=true∧a.Events.length≤2000∧a.Events.all sU=true:=by
 unfold aB3 at h
 simp only [aR,bU] at h
 exact ⟨h.2.1,h.2.2.2.1,h.2.2.2.2.1,h.2.2.2.2.2⟩
theorem aMO {a:iI} (h:vJ a) (hb:PV.bulkRow (lY a)≤1048576) (hr:aB3 a=true):(rO a.Data).length≤10100000∧(a.Events.flatMap aD8).length≤850000000∧(aLO a).length≤900000000∧nsz a.Data≤1200:=by
 obtain ⟨r1,r2,r3,r4⟩:=aDz hr
 have h0:=aOn a
 have h1:=aGI _ a.Data (eP _)
 have h2:=aDf r2 (by omega)
 have h3:=aKk (hgt a.Data) a.Data (eP _) h.2.2.2.2.1 (oO r2).1
 have h4:=aQz h.2.2.2.2.2 (by omega) r3
 unfold aUw at h4
 simp only [aF] at h4
 have a1:=kC h.1
 have a2:=oN (s:=a.Run) (by omega)
 have a3:=kC h.2.2.1
 have a4:=kC h.2.2.2.1
 refine ⟨by omega,by omega,?_,h2⟩
 unfold aLO
 simp only [aF]
 omega
theorem aOk {a:iI} (h:vJ a) (hb:PV.bulkRow (lY a)≤1048576):oT a=some (aLJ a)∧qU a=some (aLJ a):=by
 cases hr:aB3 a
 ·
  unfold oT qU aLJ
  rw [aC5 h,aDk h,hr]
  exact ⟨rfl,rfl⟩
 ·
  obtain ⟨r1,r2,r3,r4⟩:=aDz hr
  obtain ⟨l1,l2,l3,l4⟩:=aMO h hb hr
  have h0:=aOn a
  have hh:=h
  obtain ⟨k0,k1,k2,k3,k4,k5⟩:=h
  have okn:uQ (a.Events.length:Int):=⟨by omega,by omega⟩
  have b1:=kC k0
  have b2:=oN (s:=a.Run) (by omega)
  have b3:=kC k2
  have b4:=kC k3
  have b5:=kC okn
  have hev:∀ e∈a.Events,jU e∧aLY e:=fun e he=>⟨k5.2.2 e he,aOV (k5.2.2 e he) (by have:=aGt (row:=eU) he;omega)⟩
  have fin:∀ x:List UInt8,x=aLO a→some (x,(0:Int))=some (aLJ a):=fun x hx=>by
   subst hx
   unfold aLJ
   rw [hr,bB rfl]
  constructor
  ·
   unfold oT
   rw [aC5 hh,hr]
   simp only [aA,cJ,bP]
   rw [aBB (by simp) k0,aA,iC,aJQ (by omega) (by omega),aA,aBB (by simp only [aF];omega) k2,aA,aBB (by simp only [aF];omega) k3,aA,
    zT k4 (by simp only [aF];omega),(oO r2).2.2,bB rfl,aA,aBB (by simp only [aF];omega) okn,aA,
    qG 40000000000 a.Events aD8 _ (by simp only [aF];omega) (fun s i hi hs=>?_) (fun s=>?_),aA]
   ·
    exact fin _ (by unfold aLO;simp only [dJ])
   ·
    unfold rN
    obtain ⟨e1,e2⟩:=hev _ (bN hi)
    simp only [aF] at hs
    rw [dO,bB (by simp only;omega),iJ hi,aA,(aIf e1 e2 (by simp only;omega)).1,aA,nV hi k5.1]
   ·
    unfold rN
    rw [dO,aY (by simp only;omega)]
  ·
   unfold qU
   rw [aDk hh,hr]
   simp only [aA,cJ,bP]
   rw [aBu (by simp) k0,aA,iC,aEK (by omega) (by omega),aA,aBu (by simp only [aF];omega) k2,aA,aBu (by simp only [aF];omega) k3,aA,
    aBT k4 (by simp only [aF];omega),(oO r2).2.2,bB rfl,aA,aBu (by simp only [aF];omega) okn,aA,
    qG 40000000000 a.Events aD8 _ (by simp only [aF];omega) (fun s i hi hs=>?_) (fun s=>?_),aA]
   ·
    exact fin _ (by unfold aLO;simp only [dJ])
   ·
    unfold tP
    obtain ⟨e1,e2⟩:=hev _ (bN hi)
    simp only [aF] at hs
    rw [dO,bB (by simp only;omega),iJ hi,aA,(aIf e1 e2 (by simp only;omega)).2,aA,nV hi k5.1]
   ·
    unfold tP
    rw [dO,aY (by simp only;omega)]
theorem aPe {a:iI} (h:vJ a) (hb:PV.bulkRow (lY a)≤1048576) (hr:aB3 a=true):rK (aLO a)=some (a,0):=by
 obtain ⟨p1,p2,p3,p4⟩:=aDz hr
 obtain ⟨l1,l2,l3,l4⟩:=aMO h hb hr
 have h0:=aOn a
 have hh:=h
 obtain ⟨k0,k1,k2,k3,k4,k5⟩:=h
 obtain ⟨r,o1,o2⟩:=aPD (b:=aLO a) (by omega)
 have hev:∀ e∈a.Events,jU e∧aRR e:=fun e he=>by
  have hre:=cI.1 p4 e he
  obtain ⟨n1,n2⟩:=aNg hre
  have h2:=aGt (row:=eU) he
  have h3:=aGI _ e.Data (eP _)
  have h4:=aOR e
  exact ⟨k5.2.2 e he,hre,n1,n2,aDf (aGw hre).1 (by omega)⟩
 have hat:At r (mU a.Err++(sX a.Run++(mU a.Token++(mU a.N++(rO a.Data++(mU a.Events.length++(a.Events.flatMap aD8++[]))))))):=by
  rw [mH];exact o2
 obtain ⟨r1,a1,t1⟩:=aB5 hat k0
 obtain ⟨r2,a2,t2⟩:=aHn t1 (aMj p1)
 obtain ⟨r3,a3,t3⟩:=aB5 t2 k2
 obtain ⟨r4,a4,t4⟩:=aB5 t3 k3
 obtain ⟨r5,a5,t5⟩:=xD t4 k4 p2 l4
 obtain ⟨r6,a6,t6⟩:=aLT t5 p3 hev
 unfold rK
 rw [o1,aA,a1,aA,a2,aA,a3,aA,a4,aA,a5,aA,a6,aA,aRy t6,aA]
 have hq:(iI.mk a.Err a.Run a.Token a.N a.Data a.Events)=a:=rfl
 rw [hq,aC5 hh,hr]
 rfl
theorem aFf (a:iI) (h:vJ a) (hb:PV.bulkRow (lY a)+0≤1048576):qF a=some true:=by
 unfold qF
 by_cases hl:(200:Int)<a.Events.length
 ·
  rw [oJ hl,dM,aQf];rfl
 ·
  obtain ⟨e1,e2⟩:=aOk h (by omega)
  rw [decide_eq_false hl,bP,e1,aA,e2,aA,aQf]
  simp only [cG,cJ,bP]
  cases hr:aB3 a
  ·
   have:aLJ a=([],3):=by unfold aLJ;rw [hr];rfl
   rw [this];rfl
  ·
   have:aLJ a=(aLO a,0):=by unfold aLJ;rw [hr];rfl
   rw [this]
   simp only [cG,dM]
   rw [aPe h (by omega) hr,aA,aGV h]
   rfl

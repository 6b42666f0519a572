/- Plain laws: what the functions compute, with no program in sight. -/
import Derived.Test.YtnigjppddilpcaaGreatDoorGEPP0
import Derived.Test.YtnigjppddilpcaaGreatDoorGEF2
import Derived.Test.YtnigjppddilpcaaGreatDoorGEF3
import Derived.Test.YtnigjppddilpcaaGreatDoorGEF9
import Derived.Test.YtnigjppddilpcaaGreatDoorLib
import Derived.Test.YtnigjppddilpcaaGreatDoorGEF13
import Derived.Test.YtnigjppddilpcaaGreatDoorGEF15
import Derived.Test.YtnigjppddilpcaaGreatDoorPk2
import Derived.Test.YtnigjppddilpcaaGreatDoorGEF5
import Derived.Test.YtnigjppddilpcaaGreatDoorGEF10
import Derived.Test.YtnigjppddilpcaaGreatDoorGEF11
import Derived.Test.YtnigjppddilpcaaGreatDoorGEF14
import Derived.Test.YtnigjppddilpcaaGreatDoorGEF16
import Derived.Test.YtnigjppddilpcaaGreatDoorGEF0
import Derived.Test.YtnigjppddilpcaaGreatDoorGEF7
namespace Go.Proofs.YtnigjppddilpcaaGreatDoor
open Go Abs
set_option linter.unusedSimpArgs false
set_option linter.unusedVariables false
def vA:aE:=⟨0,0,[],[],[]⟩
def xF:dB:=⟨[],0,0,0,0,0,0,0,0,[]⟩
theorem aKO:dF vA:=by
 refine (gD _).2 ⟨?_,?_,?_,?_,?_⟩ <;> simp [vA,sC,okS,aDa]
def jU (k:Int):iP :=
 if k=1 then ⟨true,true,false,false,true,true⟩
 else if k=2 then ⟨true,false,false,false,false,false⟩
 else if k=3 then ⟨true,false,false,true,false,false⟩
 else if k=4 then ⟨true,false,false,false,false,false⟩
 else if k=5 then ⟨true,true,true,true,true,false⟩
 else if k=6 then ⟨true,true,true,false,true,false⟩
 else if k=7 then ⟨false,true,false,true,true,false⟩
 else if k=8 then ⟨false,true,true,false,true,false⟩
 else if k=9 then ⟨false,false,true,true,true,false⟩
 else if k=12 then ⟨false,true,false,false,true,false⟩
 else ⟨false,false,false,false,true,false⟩
theorem aNy (k:Int):tG k=some (jU k):=by
 unfold tG jU
 by_cases h1:k=1
 ·
  simp [h1]
 by_cases h2:k=2
 ·
  simp [h2]
 by_cases h3:k=3
 ·
  simp [h3]
 by_cases h4:k=4
 ·
  simp [h4]
 by_cases h5:k=5
 ·
  simp [h5]
 by_cases h6:k=6
 ·
  simp [h6]
 by_cases h7:k=7
 ·
  simp [h7]
 by_cases h8:k=8
 ·
  simp [h8]
 by_cases h9:k=9
 ·
  simp [h9]
 by_cases h12:k=12
 ·
  simp [h12]
 simp [h1,h2,h3,h4,h5,h6,h7,h8,h9,h12]
def aDh (c:bL) (u:iP):Bool :=
 (u.seq_||decide (c.Seq=0))&&(u.name_||decide (c.Name=[]))&&(u.key_||decide (c.Key=[]))&&(u.n_||decide (c.N=0))&&(u.data_||qW c.Data vA)&&(u.opts_||aAo c.Opts xF)
theorem aPU {c:bL}{u:iP} (h:iZ c):wH c u=some (aDh c u):=by
 unfold wH aDh
 have hd:dF c.Data:=h.2.2.2.2.2.1
 have ho:gO c.Opts:=h.2.2.2.2.2.2
 rw [show (aE.mk 0 0 [] [] [])=vA from rfl,show (dB.mk [] 0 0 0 0 0 0 0 0 [])=xF from rfl,sE hd,uS ho]
 cases u.seq_ <;> cases u.name_ <;> cases u.key_ <;> cases u.n_ <;> cases decide (c.Seq=0) <;> cases decide (c.Name=[]) <;> cases decide (c.Key=[]) <;> cases decide (c.N=0) <;> first | rfl | (cases u.data_ <;> cases u.opts_ <;> cases qW c.Data vA <;> rfl)
def aNH (c:bL):Bool :=
 if c.Kind=3 then inB c.N 1 1099511627776
 else if c.Kind=5 then inB c.N 0 2
 else if c.Kind=9 then inB c.N 0 1
 else if c.Kind=7 then decide (c.N=-1)||(inB c.N 0 2147483647&&decide (c.Data.Kind=0))
 else if c.Kind=10 then decide (c.Data.Kind=5)
 else if c.Kind=14 then aGP c.Data
 else true
theorem aNI {c:bL} (h:iZ c):tH c=some (aNH c):=by
 unfold tH aNH
 rw [aOP h.2.2.2.2.2.1]
 simp only [uU,cU,aA]
 by_cases h3:c.Kind=3
 ·
  simp only [h3,bT]
 by_cases h5:c.Kind=5
 ·
  simp only [h5,bT,Int.reduceEq,dL]
 by_cases h9:c.Kind=9
 ·
  simp only [h9,bT,Int.reduceEq,dL]
 by_cases h7:c.Kind=7
 ·
  simp only [h7,bT,Int.reduceEq,dL]
  by_cases hn:c.N=-1
  ·
   simp [hn,gd]
  ·
   cases inB c.N 0 2147483647 <;> by_cases hk:c.Data.Kind=0 <;> simp [hn,hk,gd]
 by_cases h10:c.Kind=10
 ·
  simp only [h10,bT,Int.reduceEq,dL]
 by_cases h14:c.Kind=14
 ·
  simp only [h14,bT,Int.reduceEq,dL]
 simp only [h3,h5,h9,h7,h10,h14,dL]
noncomputable def mF (c:bL):Bool :=
 inB c.Kind 1 14&&aDh c (jU c.Kind)&&rG c.Data&&sJ c.Opts&&(!(jU c.Kind).seq_||inB c.Seq 1 2000)&&(!(jU c.Kind).key_||mW c.Key)
  && (!(jU c.Kind).name_||(if c.Kind=12 then !lZ c.Name else pZ c.Name))&&aNH c
theorem xG {c:bL} (h:iZ c):qR c=some (mF c):=by
 have hd:dF c.Data:=h.2.2.2.2.2.1
 have ho:gO c.Opts:=h.2.2.2.2.2.2
 have hk:c.Key.length≤9223372036854775807:=gF h.2.2.2.1 (by decide)
 unfold qR mF
 rw [aNy,aA]
 simp only [aPU h,aCO hd,aCd ho,aKy hk,xT,aNI h,uU,aA]
 generalize jU c.Kind=u
 obtain ⟨useq,uname,ukey,un,udata,uopts⟩:=u
 simp only
 generalize aDh c _=b
 cases inB c.Kind 1 14
 ·
  simp [gd]
 cases b
 ·
  simp [gd]
 cases rG c.Data
 ·
  simp [gd]
 cases sJ c.Opts
 ·
  simp [gd]
 simp only [bW,bF,eH,gd,bT,aA,eE]
 have hl:decide ((4096:Int)<(c.Name.length:Int))=lZ c.Name:=rfl
 rw [hl]
 by_cases h12:c.Kind=12
 ·
  simp only [h12,bS,bW,cW,bF,bT]
  cases useq <;> cases ukey <;> cases uname <;> cases inB c.Seq 1 2000 <;> cases mW c.Key <;> cases lZ c.Name <;> cases aNH c <;> rfl
 ·
  simp only [h12,cQ,iV,cW,bF,dL]
  cases useq <;> cases ukey <;> cases uname <;> cases inB c.Seq 1 2000 <;> cases mW c.Key <;> cases pZ c.Name <;> cases aNH c <;> rfl
theorem aKW:sJ xF=true:=by decide
theorem aG6 {p:dB} (h:aAo p xF=true):p=xF:=by
 unfold aAo at h
 simp only [aM,bG] at h
 obtain ⟨⟨⟨⟨⟨⟨⟨⟨⟨h1,h2⟩,h3⟩,h4⟩,h5⟩,h6⟩,h7⟩,h8⟩,h9⟩,h10⟩:=h
 cases p;simp_all [xF]
theorem aBU (v:aE):qW v v=true:=(aN7 (xC v) v v (eN _)).2 rfl
theorem aDL (p:dB):aAo p p=true:=by simp [aAo]
theorem aBJ {a b:bL} (hd:dF a.Data) (ho:gO a.Opts):vN a b=some (decide (a.Kind=b.Kind)&&decide (a.Seq=b.Seq)&&decide (a.Name=b.Name)&&decide (a.Key=b.Key)&&decide (a.N=b.N)&&qW a.Data b.Data&&aAo a.Opts b.Opts):=by
 unfold vN
 rw [xO hd,rE ho]
 cases decide (a.Kind=b.Kind) <;> cases decide (a.Seq=b.Seq) <;> cases decide (a.Name=b.Name) <;> cases decide (a.Key=b.Key) <;> cases decide (a.N=b.N) <;> first | rfl | (cases qW a.Data b.Data <;> rfl)
def aIm (c:bL):bL :=
 ⟨c.Kind,if (jU c.Kind).seq_ then 0 else c.Seq,if (jU c.Kind).name_ then [] else c.Name,if (jU c.Kind).key_ then [] else c.Key,if (jU c.Kind).n_ then 0 else c.N,
  if (jU c.Kind).data_ then vA else c.Data,if (jU c.Kind).opts_ then xF else c.Opts⟩
theorem aMj (c:bL):aDO c=some (aIm c):=by
 unfold aDO aIm jU
 obtain ⟨k,sq,nm,ky,n,d,o⟩:=c
 simp only
 by_cases h1:k=1
 ·
  subst h1;rfl
 by_cases h2:k=2
 ·
  subst h2;rfl
 by_cases h3:k=3
 ·
  subst h3;rfl
 by_cases h4:k=4
 ·
  subst h4;rfl
 by_cases h5:k=5
 ·
  subst h5;rfl
 by_cases h6:k=6
 ·
  subst h6;rfl
 by_cases h7:k=7
 ·
  subst h7;rfl
 by_cases h8:k=8
 ·
  subst h8;rfl
 by_cases h9:k=9
 ·
  subst h9;rfl
 by_cases h12:k=12
 ·
  subst h12;rfl
 simp [h1,h2,h3,h4,h5,h6,h7,h8,h9,h12,vA]
theorem aDp {c:bL} (h:iZ c):aAQ c=some (mF c):=by
 have hd:dF c.Data:=h.2.2.2.2.2.1
 have ho:gO c.Opts:=h.2.2.2.2.2.2
 unfold aAQ mF
 rw [aMj,aDr hd,xY,aFG,aAR ho,aK2 hd]
 have hb:vN (aIm c) ⟨c.Kind,0,[],[],0,vA,xF⟩=some (aDh c (jU c.Kind)):=by
  rw [aBJ (by unfold aIm;simp only;split;exact aKO;exact hd) (by
   unfold aIm;simp only;split
   ·
    refine ⟨?_,?_,?_,?_,?_,?_,?_,?_,?_,?_⟩ <;> simp [xF,sC,okS,aDa]
   ·
    exact ho)]
  unfold aIm aDh
  generalize jU c.Kind=u
  obtain ⟨useq,uname,ukey,un,udata,uopts⟩:=u
  have z1:=aBU vA
  have z2:=aDL xF
  cases useq <;> cases uname <;> cases ukey <;> cases un <;> cases udata <;> cases uopts <;> simp [z1,z2]
 simp only [aDN,aA]
 cases hin:inB c.Kind 1 14
 ·
  simp [gd]
 rw [show (bL.mk c.Kind 0 [] [] 0 ⟨0,0,[],[],[]⟩ ⟨[],0,0,0,0,0,0,0,0,[]⟩)=⟨c.Kind,0,[],[],0,vA,xF⟩ from rfl]
 simp only [bW,eH,gd,bT,aA,hb,bF,eE]
 cases hbb:aDh c (jU c.Kind)
 ·
  simp [gd]
 simp only [bW,eH,gd,bT,aA,bF,eE]
 cases rG c.Data
 ·
  simp
 simp only [bW,bF,eE]
 have hop:(jU c.Kind).opts_=true∨sJ c.Opts=true:=by
  cases hu:(jU c.Kind).opts_
  ·
   refine .inr ?_
   unfold aDh at hbb
   rw [hu] at hbb
   simp only [aM,nC] at hbb
   rw [aG6 hbb.2,aKW]
  ·
   exact .inl rfl
 have hl:decide ((c.Name.length:Int)≤4096)=!lZ c.Name:=by unfold lZ;rw [dU];simp
 rw [hl]
 unfold aNH
 clear hb hbb hin h hd ho hl
 obtain ⟨k,sq,nm,ky,n,d,o⟩:=c
 simp only at hop ⊢
 generalize inB sq 1 2000=b1
 generalize pZ nm=b2
 generalize mW ky=b3
 generalize sJ o=b4 at *
 generalize lZ nm=b5
 generalize aGP d=b6
 by_cases h1:k=1
 ·
  subst h1
  cases b1 <;> cases b2 <;> cases b4 <;> rfl
 by_cases h2:k=2
 ·
  subst h2
  obtain rfl:b4=true:=by simpa [jU] using hop
  cases b1 <;> rfl
 by_cases h3:k=3
 ·
  subst h3
  obtain rfl:b4=true:=by simpa [jU] using hop
  cases b1 <;> simp [jU]
 by_cases h4:k=4
 ·
  subst h4
  obtain rfl:b4=true:=by simpa [jU] using hop
  cases b1 <;> rfl
 by_cases h5:k=5
 ·
  subst h5
  obtain rfl:b4=true:=by simpa [jU] using hop
  cases b1 <;> cases b2 <;> cases b3 <;> simp [jU]
 by_cases h6:k=6
 ·
  subst h6
  obtain rfl:b4=true:=by simpa [jU] using hop
  cases b1 <;> cases b2 <;> cases b3 <;> rfl
 by_cases h7:k=7
 ·
  subst h7
  obtain rfl:b4=true:=by simpa [jU] using hop
  by_cases hn:n=-1
  ·
   cases b2 <;> simp [jU,hn]
  ·
   cases b2 <;> cases inB n 0 2147483647 <;> by_cases hk:d.Kind=0 <;> simp [jU,hn,hk]
 by_cases h8:k=8
 ·
  subst h8
  obtain rfl:b4=true:=by simpa [jU] using hop
  cases b2 <;> cases b3 <;> rfl
 by_cases h9:k=9
 ·
  subst h9
  obtain rfl:b4=true:=by simpa [jU] using hop
  cases b3 <;> simp [jU]
 by_cases h10:k=10
 ·
  subst h10
  obtain rfl:b4=true:=by simpa [jU] using hop
  simp [jU]
 by_cases h12:k=12
 ·
  subst h12
  obtain rfl:b4=true:=by simpa [jU] using hop
  simp [jU]
 by_cases h14:k=14
 ·
  subst h14
  obtain rfl:b4=true:=by simpa [jU] using hop
  simp [jU]
 ·
  have:b4=true:=by simpa [jU,h1,h2,h3,h4,h5,h6,h7,h8,h9,h10,h12,h14] using hop
  subst this
  simp [jU,h1,h2,h3,h4,h5,h6,h7,h8,h9,h10,h12,h14]
def yX (s:List UInt8):List UInt8 × List UInt8 × Bool :=
 if Lib.indexByte s 47<0 then ([],[],false)
 else if 0≤Lib.indexByte (s.drop ((Lib.indexByte s 47).toNat+1)) 47 then ([],[],false)
 else (s.take (Lib.indexByte s 47).toNat,s.drop ((Lib.indexByte s 47).toNat+1),true)
theorem aGN (s:List UInt8) (c:UInt8):(Lib.indexByte s c=-1∧∀ k:Nat,s[k]?≠some c)∨∃ o:Nat,Lib.indexByte s c=(o:Int)∧s[o]?=some c∧(∀ k:Nat,k<o→s[k]?≠some c)∧o<s.length:=by
 by_cases h:Lib.indexByte s c=-1
 ·
  exact .inl ⟨h,Lib.indexByte_none h⟩
 ·
  have hg:=Lib.indexByte_ge s c
  obtain ⟨o,ho⟩:∃ o:Nat,Lib.indexByte s c=(o:Int):=⟨(Lib.indexByte s c).toNat,by omega⟩
  obtain ⟨h1,h2⟩:=Lib.indexByte_some ho
  exact .inr ⟨o,ho,h1,h2,(aY.1 h1).1⟩
theorem aCE (s:List UInt8):((∀ k:Nat,s[k]?≠some 47)∧yX s=([],[],false))∨(∃ i j:Nat,i<j∧s[i]?=some 47∧s[j]?=some 47∧yX s=([],[],false))∨∃ j:Nat,s[j]?=some 47∧(∀ k:Nat,k≠j→s[k]?≠some 47)∧j<s.length∧yX s=(s.take j,s.drop (j+1),true):=by
 unfold yX
 rcases aGN s 47 with ⟨h1,h2⟩ | ⟨o,h1,h2,h3,h4⟩
 ·
  exact .inl ⟨h2,by rw [aQ (by omega)]⟩
 ·
  rw [aN (by omega),h1,iW]
  rcases aGN (s.drop (o+1)) 47 with ⟨k1,k2⟩ | ⟨p,k1,k2,k3,k4⟩
  ·
   refine .inr (.inr ⟨o,h2,fun k hk=>?_,h4,by rw [aN (by omega)]⟩)
   rcases Nat.lt_or_gt_of_ne hk with hk | hk
   ·
    exact h3 k hk
   ·
    have:=k2 (k - (o+1))
    rw [fV,show o+1+(k - (o+1))=k by omega] at this
    exact this
  ·
   rw [fV] at k2
   exact .inr (.inl ⟨o,o+1+p,by omega,h2,k2,by rw [aQ (by omega)]⟩)
theorem aNZ {s:List UInt8}{j:Nat} (h:s[j]?=some 47) (hu:∀ k:Nat,k≠j→s[k]?≠some 47):yX s=(s.take j,s.drop (j+1),true):=by
 rcases aCE s with ⟨h1,_⟩ | ⟨i,k,hik,h1,h2,_⟩ | ⟨i,h1,h2,_,h3⟩
 ·
  exact absurd h (h1 j)
 ·
  by_cases e:i=j
  ·
   exact absurd h2 (hu k (by omega))
  ·
   exact absurd h1 (hu i e)
 ·
  have:i=j:=Decidable.byContradiction fun e=>hu i e h1
  rw [h3,this]
theorem aN0 {s:List UInt8}{i j:Nat} (hij:i<j) (h:s[i]?=some 47) (h':s[j]?=some 47):yX s=([],[],false):=by
 rcases aCE s with ⟨_,h2⟩ | ⟨_,_,_,_,_,h2⟩ | ⟨k,h1,h2,_,h3⟩
 ·
  exact h2
 ·
  exact h2
 ·
  by_cases e:i=k
  ·
   exact absurd h' (h2 j (by omega))
  ·
   exact absurd h (h2 i e)
theorem aMu {s:List UInt8} (h:∀ k:Nat,s[k]?≠some 47):yX s=([],[],false):=by
 rcases aCE s with ⟨_,h2⟩ | ⟨_,_,_,_,_,h2⟩ | ⟨k,h1,_⟩
 ·
  exact h2
 ·
  exact h2
 ·
  exact absurd h1 (h k)
theorem aRa {s:List UInt8} (h:s.length≤140737488355328):yI s [47]=some (if Lib.indexByte s 47<0 then (s,[],false) else (s.take (Lib.indexByte s 47).toNat,s.drop ((Lib.indexByte s 47).toNat+1),true)):=by
 unfold yI vE tA
 simp only [aA]
 rcases aGN s 47 with ⟨h1,h2⟩ | ⟨o,h1,h2,h3,h4⟩
 ·
  rw [h1];rfl
 ·
  rw [h1,cU,aQ (by omega),aN (by omega),aMX (by omega),aA]
  simp only [List.length_singleton]
  rw [w64 (by omega) (by omega),aGt (by omega),aA,aA,show ((o:Int)+((1:Nat):Int)).toNat=o+1 by omega,iW]
theorem aHV {s:List UInt8} (h:s.length≤140737488355328):aAk s=some (yX s):=by
 unfold aAk uE yX
 rw [aRa h,aA]
 by_cases h1:Lib.indexByte s 47<0
 ·
  rw [aQ h1,aQ h1]
  simp [gd]
 ·
  rw [aN h1,aN h1]
  by_cases h2:0≤Lib.indexByte (s.drop ((Lib.indexByte s 47).toNat+1)) 47
  ·
   rw [aQ h2];simp [gd,h2]
  ·
   rw [aN h2];simp [gd,h2]
theorem aH3 {s:List UInt8} (h:s.length≤140737488355328):∃ x,fX (aAt s) ((-1:Int),(0:Int))=some x∧((x=Fl.done ([],[],false)∧∃ i j:Nat,i<j∧s[i]?=some 47∧s[j]?=some 47)∨(x=Fl.go (-1)∧∀ k:Nat,s[k]?≠some 47)∨∃ j:Nat,x=Fl.go (j:Int)∧s[j]?=some 47∧(∀ k:Nat,k≠j→s[k]?≠some 47)∧j<s.length):=by
 refine vB (fun t=>∃ i:Nat,t.2=(i:Int)∧i≤s.length∧((t.1=-1∧∀ k:Nat,k<i→s[k]?≠some 47)∨∃ j:Nat,t.1=(j:Int)∧j<i∧s[j]?=some 47∧∀ k:Nat,k<i→k≠j→s[k]?≠some 47)) (fun t=>s.length - t.2.toNat) _ ?_ _ ⟨0,rfl,by omega,.inl ⟨rfl,fun k hk=>absurd hk (Nat.not_lt_zero k)⟩⟩
 rintro ⟨x,i0⟩ ⟨i,hi0,hle,hx⟩
 simp only at hi0 hx
 subst hi0
 unfold aAt
 simp only
 by_cases hc:i<s.length
 ·
  rw [cU,aQ (by omega),gJ hc,aA,nJ hc (by omega)]
  have hg:s[i]?=some s[i]:=aD hc
  have h47:((s[i].toNat:Int)=47)↔s[i]=47:=by
   constructor
   ·
    intro e
    have:s[i].toNat=(47:UInt8).toNat:=by show s[i].toNat=47;omega
    exact UInt8.toNat_inj.1 this
   ·
    intro e;rw [e];rfl
  generalize s[i]=c at *
  by_cases hcc:c=47
  ·
   have e1:((c.toNat:Int)=47):=h47.2 hcc
   subst hcc
   rcases hx with ⟨rfl,hn⟩ | ⟨j,rfl,hj,hj1,hn⟩
   ·
    simp only [e1,bS,cW,show decide ((0:Int)≤-1)=false from rfl,bF,aA]
    refine .inl ⟨_,rfl,⟨i+1,rfl,hc,.inr ⟨i,rfl,by omega,hg,fun k hk hne=>hn k (by omega)⟩⟩,by simp;omega⟩
   ·
    have e2:decide ((0:Int)≤(j:Int))=true:=by simp
    simp only [e1,bS,cW,e2]
    exact .inr ⟨_,rfl,.inl ⟨rfl,j,i,hj,hj1,hg⟩⟩
  ·
   have e1:¬((c.toNat:Int)=47):=fun e=>hcc (h47.1 e)
   have hne:s[i]?≠some 47:=by rw [hg];simpa using hcc
   simp only [e1,cQ,bF,aA]
   refine .inl ⟨_,rfl,⟨i+1,rfl,hc,?_⟩,by simp;omega⟩
   rcases hx with ⟨rfl,hn⟩ | ⟨j,rfl,hj,hj1,hn⟩
   ·
    refine .inl ⟨rfl,fun k hk=>?_⟩
    by_cases e:k=i
    ·
     rw [e];exact hne
    ·
     exact hn k (by omega)
   ·
    refine .inr ⟨j,rfl,by omega,hj1,fun k hk hkj=>?_⟩
    by_cases e:k=i
    ·
     rw [e];exact hne
    ·
     exact hn k (by omega) hkj
 ·
  rw [cU,aN (by omega)]
  have:i=s.length:=by omega
  subst this
  have hout:∀ k:Nat,¬k<s.length→s[k]?≠some 47:=fun k hk=>by rw [jC (by omega)];simp
  refine .inr ⟨_,rfl,.inr ?_⟩
  rcases hx with ⟨rfl,hn⟩ | ⟨j,rfl,hj,hj1,hn⟩
  ·
   refine .inl ⟨rfl,fun k=>?_⟩
   by_cases hk:k<s.length
   ·
    exact hn k hk
   ·
    exact hout k hk
  ·
   refine .inr ⟨j,rfl,hj1,fun k hkj=>?_,hj⟩
   by_cases hk:k<s.length
   ·
    exact hn k hk hkj
   ·
    exact hout k hk
theorem aK6 {s:List UInt8} (h:s.length≤140737488355328):aCw s=some (yX s):=by
 obtain ⟨x,hx,hc⟩:=aH3 h
 unfold aCw
 rw [hx,aA]
 rcases hc with ⟨rfl,i,j,h1,h2,h3⟩ | ⟨rfl,h1⟩ | ⟨j,rfl,h1,h2,h3⟩
 ·
  rw [aN0 h1 h2 h3];rfl
 ·
  rw [aMu h1];rfl
 ·
  rw [aNZ h1 h2]
  simp only [Fl.next]
  rw [cU,aN (by omega),aMX (by omega),aA,w64 (by omega) (by omega),aGt (by omega),aA,iW,show ((j:Int)+1).toNat=j+1 by omega]
set_option maxRecDepth 100000
theorem aB8 (n:Nat):(∀ a0 m,n≤m→LeO (lQ n a0) (lQ m a0)):=by
 induction n with
 | zero=>exact fun _ _ _=>by intro r h;simp [lQ] at h
 | succ n ih =>
  intro a0 m hm
  obtain ⟨m,rfl⟩:∃ k,m=k+1:=⟨m - 1,by omega⟩
  rw [lQ,lQ]
  repeat' with_reducible (first | exact ih _ _ (by omega) | refine aGf ?_ (fun _=>?_) | refine aGg ?_ ?_ | refine aMN ?_ | refine aGh (fun _=>?_) | refine aEe (fun _=>?_) | exact aEf _)
theorem aE8 {n:Nat}{p0n:Int}{r:(List UInt8)} (h:lQ n p0n=some r):wO p0n=some r:=by
 unfold wO
 exact aO0 (n:=n) h fun m hm=>(aB8 n) p0n m hm
theorem sT (oM uX:Int→Int→aP→Option (aE × Int × aP)) (x1:(Int × aP)) (aAm:Int) (uC:Int) (s10:(Int × Int × aP × (List aE) × (List (List UInt8)))) (hrec_value_decoder_value:∀ a0 a1 a2,LeO (uX a0 a1 a2) (oM a0 a1 a2)):LeO (gS uX x1 aAm uC s10) (gS oM x1 aAm uC s10):=by
 unfold gS
 repeat' with_reducible (first | exact hrec_value_decoder_value _ _ _ | refine aGf ?_ (fun _=>?_) | refine aGg ?_ ?_ | refine aMN ?_ | refine aGh (fun _=>?_) | refine aEe (fun _=>?_) | exact aEf _)
theorem yN (n:Nat):(∀ a0 a1 a2 a3 a4 a5 m,n≤m→LeO (iK n a0 a1 a2 a3 a4 a5) (iK m a0 a1 a2 a3 a4 a5))∧(∀ a0 a1 a2 m,n≤m→LeO (fO n a0 a1 a2) (fO m a0 a1 a2)):=by
 induction n with
 | zero=>exact ⟨fun _ _ _ _ _ _ _ _=>by intro r h;simp [iK] at h,fun _ _ _ _ _=>by intro r h;simp [fO] at h⟩
 | succ n ih =>
  refine ⟨?_,?_⟩
  ·
   intro a0 a1 a2 a3 a4 a5 m hm
   obtain ⟨m,rfl⟩:∃ k,m=k+1:=⟨m - 1,by omega⟩
   rw [iK,iK]
   repeat' with_reducible (first | exact ih.1 _ _ _ _ _ _ _ (by omega) | exact ih.2 _ _ _ _ (by omega) | refine sT _ _ _ _ _ _ (fun _ _ _=>?_) | refine aGf ?_ (fun _=>?_) | refine aGg ?_ ?_ | refine aMN ?_ | refine aGh (fun _=>?_) | refine aEe (fun _=>?_) | exact aEf _)
  ·
   intro a0 a1 a2 m hm
   obtain ⟨m,rfl⟩:∃ k,m=k+1:=⟨m - 1,by omega⟩
   rw [fO,fO]
   repeat' with_reducible (first | exact ih.1 _ _ _ _ _ _ _ (by omega) | exact ih.2 _ _ _ _ (by omega) | refine sT _ _ _ _ _ _ (fun _ _ _=>?_) | refine aGf ?_ (fun _=>?_) | refine aGg ?_ ?_ | refine aMN ?_ | refine aGh (fun _=>?_) | refine aEe (fun _=>?_) | exact aEf _)
theorem aBj {n:Nat}{qL:Int}{gY:Int}{qK:aP}{r:(aE × Int × aP)} (h:fO n qL gY qK=some r):qY qL gY qK=some r:=by
 unfold qY
 exact aO0 (n:=n) h fun m hm=>(yN n).2 qL gY qK m hm
theorem aET {u:Nat} (h:u<10):Lib.decDigits u=[UInt8.ofNat (48+u)]:=by rw [Lib.decDigits];simp [h]
theorem aIY {u:Nat} (h:¬u<10):Lib.decDigits u=Lib.decDigits (u / 10)++[UInt8.ofNat (48+u % 10)]:=by rw [Lib.decDigits];simp [h]
theorem aD8:∀ (k u:Nat),u<10 ^ (k+1)→(Lib.decDigits u).length≤k+1
 | 0,u,h=>by rw [aET (by omega)];simp
 | k+1,u,h=>by
  by_cases hu:u<10
  ·
   rw [aET hu];simp
  ·
   rw [aIY hu]
   have:=aD8 k (u / 10) (by rw [mR] at h;omega)
   simp;omega
theorem aGY {s:List UInt8} (h:s.length≤140737488355328):yE s=some (vC s):=by unfold yE;rw [aQ h]
theorem aL0:∀ (n u:Nat),u<10 ^ (n+1)→u≤9223372036854775808→n≤30→lQ (n+1) (-(u:Int))=some (Lib.decDigits u):=by
 intro n
 induction n with
 | zero =>
  intro u h hb _
  have hu:u<10:=by omega
  rw [lQ]
  have e1:IntKind.u8.wrap (IntKind.i64.wrap (48+IntKind.i64.wrap (0 - (-(u:Int)).tmod 10)))=((48+u:Nat):Int):=by
   have:(-(u:Int)).tmod 10=-(u:Int):=by rw [Int.neg_tmod,jV (by omega)];omega
   rw [this,IntKind.wrap_u8,IntKind.wrap_i64,IntKind.wrap_i64];omega
  rw [e1,aD6 (by omega),aA,cU,aQ (by omega),aET hu]
 | succ n ih =>
  intro u h hb hn
  rw [lQ]
  have e1:IntKind.u8.wrap (IntKind.i64.wrap (48+IntKind.i64.wrap (0 - (-(u:Int)).tmod 10)))=((48+u % 10:Nat):Int):=by
   have:(-(u:Int)).tmod 10=-((u % 10:Nat):Int):=by rw [Int.neg_tmod,jV (by omega)];omega
   rw [this,IntKind.wrap_u8,IntKind.wrap_i64,IntKind.wrap_i64];omega
  rw [e1,aD6 (by omega),aA,cU]
  by_cases hu:u<10
  ·
   rw [aQ (by omega),aET hu,Nat.mod_eq_of_lt hu]
  ·
   rw [aN (by omega)]
   have e2:IntKind.i64.wrap ((-(u:Int)).tdiv 10)=-((u / 10:Nat):Int):=by
    have:(-(u:Int)).tdiv 10=-((u / 10:Nat):Int):=by rw [Int.neg_tdiv,nY (by omega)];omega
    rw [this,w64 (by omega) (by omega)]
   have hl:=aD8 n (u / 10) (by rw [mR] at h;omega)
   rw [e2,ih (u / 10) (by rw [mR] at h;omega) (by omega) (by omega),aA,aOv (by simp;omega),aA,aIY hu]
theorem aNw {u:Nat} (h:u≤9223372036854775808):wO (-(u:Int))=some (Lib.decDigits u):=aE8 (aL0 19 u (by omega) h (by omega))
theorem aFE {n:Int} (h:sC n):aE9 n=some (aB9 n):=by
 unfold aE9 aB9
 rw [cU]
 by_cases h1:n<1
 ·
  rw [aQ h1,aQ h1]
 ·
  rw [aN h1,aN h1]
  obtain ⟨h2,h3⟩:=h
  unfold aDo
  obtain ⟨u,rfl⟩:∃ u:Nat,n=(u:Int):=⟨n.toNat,by omega⟩
  rw [cU,aN (by omega),show (0:Int) - (u:Int)=-(u:Int) by omega,w64 (by omega) (by omega),aNw (by omega),aA,aA]
  have hl:=aD8 18 u (by omega)
  rw [aOv (by simp;omega),aA,Lib.itoa_nonneg];rfl
def rdS (a:Nat) (c:UInt8):Nat:=10*a+(c.toNat - 48)
def rd (a:Nat) (l:List UInt8):Nat:=l.foldl rdS a
theorem aEn (c:UInt8) (l:List UInt8) (a:Nat):rd a (c :: l)=rd (rdS a c) l:=nD ..
theorem aE6 (a:Nat):rd a []=a:=List.foldl_nil ..
theorem aE5 (l m:List UInt8) (a:Nat):rd a (l++m)=rd (rd a l) m:=List.foldl_append ..
theorem aRA (a:Nat) (c:UInt8):a≤rdS a c:=by unfold rdS;omega
theorem aPn:∀ (l:List UInt8) (a:Nat),a≤rd a l
 | [],a=>by rw [aE6];exact eN a
 | c :: l,a=>by rw [aEn];exact gF (aRA a c) (aPn l (rdS a c))
def dig (c:UInt8):Prop:=48≤c.toNat∧c.toNat≤57
theorem aOC {u:Nat} (h:u<10):dig (UInt8.ofNat (48+u))∧(UInt8.ofNat (48+u)).toNat - 48=u:=by
 have:(UInt8.ofNat (48+u)).toNat=48+u:=by simp;omega
 unfold dig;omega
theorem aMe:∀ u,rd 0 (Lib.decDigits u)=u∧∀ c∈Lib.decDigits u,dig c:=by
 intro u
 induction u using Nat.strongRecOn with
 | _ u ih =>
  by_cases h:u<10
  ·
   obtain ⟨h1,h2⟩:=aOC h
   rw [aET h,aEn,aE6]
   refine ⟨?_,by simp only [List.mem_singleton];rintro c rfl;exact h1⟩
   unfold rdS
   omega
  ·
   obtain ⟨h1,h2⟩:=aOC (u:=u % 10) (by omega)
   obtain ⟨i1,i2⟩:=ih (u / 10) (by omega)
   rw [aIY h,aE5,i1,aEn,aE6]
   refine ⟨?_,?_⟩
   ·
    unfold rdS
    omega
   ·
    intro c hc
    rcases fP.1 hc with hc | hc
    ·
     exact i2 c hc
    ·
     rw [List.mem_singleton.1 hc];exact h1
theorem aRb (u:Nat):Lib.decDigits u≠[]:=by
 by_cases h:u<10
 ·
  rw [aET h];simp
 ·
  rw [aIY h];simp
theorem aPb:∀ (l:List UInt8) (a:Nat),(∀ c∈l,dig c)→rd a l<18446744073709551616→Lib.parseUint10 a l=.ok (rd a l):=by
 intro l
 induction l with
 | nil=>intro a _ _;rw [aE6,Lib.parseUint10]
 | cons c l ih =>
  intro a hd hr
  have hc:=hd c (by simp)
  have hge:=aPn l (rdS a c)
  rw [aEn] at hr ⊢
  unfold dig at hc
  have hs:rdS a c=10*a+(c.toNat - 48):=rfl
  rw [Lib.parseUint10,aQ hc,aN (by omega),mQ a 10,aN (by omega),← hs]
  exact ih _ (fun x hx=>hd x (by simp [hx])) hr
theorem aOr {u:Nat} (h:u≤9223372036854775807):Lib.atoiAll (Lib.decDigits u)=.ok (u:Int):=by
 obtain ⟨h1,h2⟩:=aMe u
 have hp:=aPb (Lib.decDigits u) 0 h2 (by omega)
 rw [h1] at hp
 have hne:=aRb u
 generalize Lib.decDigits u=l at *
 cases l with
 | nil=>exact absurd rfl hne
 | cons c r =>
  have hc:=h2 c (by simp)
  unfold dig at hc
  unfold Lib.atoiAll
  simp only
  rw [aN (by omega)]
  unfold Lib.parseMag
  rw [aN (by simp),hp]
  simp only
  rw [aN (by omega),aN (by omega),aN (by omega)]
theorem aHn {v:Int} (h:1≤v):aB9 v=114 :: Lib.decDigits v.toNat:=by
 unfold aB9
 rw [aN (by omega)]
 obtain ⟨u,rfl⟩:∃ u:Nat,v=(u:Int):=⟨v.toNat,by omega⟩
 rw [Lib.itoa_nonneg];rfl
theorem aKN {v:Int} (h1:1≤v) (h2:v≤9223372036854775807):vC (aB9 v)=(v,true):=by
 unfold vC
 have hr:=aHn h1
 have hp:Lib.hasPrefix (aB9 v) [114]=true:=by rw [hr];simp [Lib.hasPrefix]
 have ht:Lib.trimPrefix (aB9 v) [114]=Lib.decDigits v.toNat:=by unfold Lib.trimPrefix;rw [aQ hp,hr];rfl
 rw [aQ hp,ht,aOr (by omega)]
 simp only
 rw [show ((v.toNat:Nat):Int)=v by omega,aQ ⟨rfl,h1⟩]
theorem aFA (s:List UInt8):(∃ v:Int,1≤v∧v≤9223372036854775807∧aB9 v=s∧vC s=(v,true))∨((∀ v:Int,1≤v→v≤9223372036854775807→aB9 v≠s)∧vC s=(0,false)):=by
 by_cases h:∃ v:Int,1≤v∧v≤9223372036854775807∧aB9 v=s
 ·
  obtain ⟨v,h1,h2,rfl⟩:=h
  exact .inl ⟨v,h1,h2,rfl,aKN h1 h2⟩
 ·
  refine .inr ⟨fun v h1 h2 h3=>h ⟨v,h1,h2,h3⟩,?_⟩
  unfold vC
  split
  ·
   split
   ·
    rename_i v hv
    have hb:=aJ4 hv
    rw [aN fun hh=>h ⟨v,hh.2,hb.2,hh.1⟩]
   ·
    rfl
  ·
   rfl
theorem aRZ {x:Int} (h1:-9223372036854775808≤x) (h2:x≤9223372036854775807):(x+9223372036854775808) % 18446744073709551616 - 9223372036854775808=x:=by omega
theorem aR0 {x:Int} (h1:-9223372036854775808≤x - 48) (h2:x - 48≤9223372036854775807):((x+9223372036854775808) % 18446744073709551616 - 9223372036854775808 - 48+9223372036854775808) % 18446744073709551616 - 9223372036854775808=x - 48:=by omega
theorem aPo (c:UInt8) (l:List UInt8):rd 0 (((c :: l).take 1).drop 1)=0:=by
 rw [kV,List.take_zero,List.drop_succ_cons,mC,aE6]
theorem aOE (c:UInt8) (l:List UInt8):(c :: l).drop 1=l:=by rw [List.drop_succ_cons,mC]
theorem aHk {s:List UInt8} (h:s.length≤140737488355328):∃ x,fX (yT s) ((0:Int),(1:Int))=some x∧sC x∧∀ u:Nat,1≤u→u≤9223372036854775807→s=114 :: Lib.decDigits u→x=(u:Int):=by
 refine vB (fun t=>∃ i:Nat,t.2=(i:Int)∧1≤i∧sC t.1∧∀ u:Nat,1≤u→u≤9223372036854775807→s=114 :: Lib.decDigits u→i≤s.length∧t.1=(rd 0 ((s.take i).drop 1):Int)) (fun t=>s.length - t.2.toNat) _ ?_ _ ⟨1,rfl,by omega,by simp [sC],fun u _ _ hs=>⟨by rw [hs,eV];omega,by rw [hs,aPo];rfl⟩⟩
 rintro ⟨x,i0⟩ ⟨i,hi0,h1,hx,hu⟩
 simp only at hi0 hx hu
 subst hi0
 unfold yT
 by_cases hc:i<s.length∧s.length≤20
 ·
  have e:(cond (decide ((i:Int)<(s.length:Int))) (decide ((s.length:Int)≤20)) false)=true:=by
   have a1:(i:Int)<s.length:=by omega
   have a2:(s.length:Int)≤20:=by omega
   simp [a1,a2]
  simp only
  rw [e,cW,gJ hc.1,aA,nJ hc.1 (by omega)]
  refine .inl ⟨_,rfl,⟨i+1,rfl,by omega,?_,fun u hu1 hu2 hs=>⟨hc.1,?_⟩⟩,by simp;omega⟩
  ·
   simp only [sC,IntKind.wrap_i64];omega
  ·
   obtain ⟨hi,hxe⟩:=hu u hu1 hu2 hs
   simp only
   have hr:=aMe u
   have hsplit:(s.take (i+1)).drop 1=(s.take i).drop 1++[s[i]]:=by
    rw [eT hc.1,iX (by simp;omega)]
   have hd:dig s[i]:=by
    refine hr.2 _ ?_
    have:s.drop 1=Lib.decDigits u:=by rw [hs,aOE]
    rw [← this]
    have:s[i]=(s.drop 1)[i - 1]'(by simp;omega):=by simp only [List.getElem_drop];congr 1;omega
    rw [this];exact aX _
   have hle:rd 0 ((s.take (i+1)).drop 1)≤u:=by
    have h2:s.drop 1=(s.take (i+1)).drop 1++s.drop (i+1):=by
     conv=>lhs;rw [← lL (i+1) s,iX (by simp;omega)]
    have h3:rd 0 (s.drop 1)=u:=by rw [hs,aOE];exact hr.1
    rw [h2,aE5] at h3
    have:=aPn (s.drop (i+1)) (rd 0 ((s.take (i+1)).drop 1))
    omega
   rw [hsplit,aE5] at hle ⊢
   rw [aEn,aE6] at hle ⊢
   unfold dig at hd
   have hs:rdS (rd 0 ((s.take i).drop 1)) s[i]=10*rd 0 ((s.take i).drop 1)+(s[i].toNat - 48):=rfl
   rw [hs] at hle ⊢
   rw [hxe]
   generalize rd 0 ((s.take i).drop 1)=R at *
   generalize s[i]=c at *
   clear hs hsplit
   simp only [IntKind.wrap_i64]
   generalize c.toNat=d at *
   rw [aRZ (x:=10*(R:Int)) (by omega) (by omega),aRZ (x:=(d:Int)) (by omega) (by omega),aR0 (x:=10*(R:Int)+(d:Int)) (by omega) (by omega)]
   omega
 ·
  have e:(cond (decide ((i:Int)<(s.length:Int))) (decide ((s.length:Int)≤20)) false)=false:=by
   by_cases a1:(i:Int)<s.length
   ·
    have a2:¬(s.length:Int)≤20:=by omega
    simp [a1,a2]
   ·
    simp [a1]
  simp only
  rw [e,bF]
  refine .inr ⟨x,rfl,hx,fun u hu1 hu2 hs=>?_⟩
  obtain ⟨hi,hxe⟩:=hu u hu1 hu2 hs
  have hl:=aD8 18 u (by omega)
  have hsl:s.length=(Lib.decDigits u).length+1:=by rw [hs,eV]
  have:i=s.length:=by omega
  rw [hxe,this,kK]
  have h3:s.drop 1=Lib.decDigits u:=by rw [hs,aOE]
  rw [h3,(aMe u).1]
theorem aJe {s:List UInt8} (h:s.length≤140737488355328):aBF s=some (vC s):=by
 obtain ⟨x,hx,hok,hu⟩:=aHk h
 unfold aBF
 rw [hx,aA]
 rcases aFA s with ⟨v,h1,h2,h3,h4⟩ | ⟨h3,h4⟩
 ·
  have hxv:x=v:=by
   have:=hu v.toNat (by omega) (by omega) (by rw [← h3,aHn h1])
   omega
  subst hxv
  rw [aFE hok,h4,h3]
  have:¬x<1:=by omega
  simp [this,gd]
 ·
  rw [aFE hok,h4]
  by_cases h5:x<1
  ·
   simp [h5,gd]
  ·
   have:=h3 x (by omega) hok.2
   simp [h5,gd,this]
theorem gdS {c b:Bool}:gd c (some b)=some (if c=true then b else default):=by unfold gd;split <;> rfl
theorem cA (a b:Bool):cond a (if (a==true)=true then b else default) false=(a&&b):=by cases a <;> rfl
theorem cO (a b:Bool):cond a true (if (a==false)=true then b else default)=(a||b):=by cases a <;> rfl
theorem cF (a b:Bool):cond a b false=(a&&b):=by cases a <;> rfl
theorem cT (a b:Bool):cond a true b=(a||b):=by cases a <;> rfl
theorem aA6 {n l h:Int}:nI n l h=some (inB n l h):=by unfold nI inB;rw [cF]
theorem aMg {n l h:Int}:rX n l h=some (inB n l h):=by unfold rX inB;rw [cF]
theorem xQ {s:List UInt8} (hs:s.length≤9223372036854775807):qT s=some (mW s):=(show qT s=sA s from rfl).trans (aKy hs)
def aDR (s:List UInt8):Bool:=decide (s=[])||(vC s).2
theorem aCz {s:List UInt8} (hs:s.length≤140737488355328):vY s=some (aDR s):=by
 unfold vY aDR
 rw [aGY hs,aA,cT]
theorem aFF {s:List UInt8} (hs:s.length≤140737488355328):aC5 s=some (aDR s):=by
 unfold aC5 aDR
 rw [aJe hs,aA,cT]
def aHX (s:List UInt8):Bool:=decide (s=[])||((yX s).2.2&&decide ((s.length:Int)≤4096))
theorem aEu {s:List UInt8} (hs:s.length≤140737488355328):tT s=some (aHX s):=by
 unfold tT aHX
 rw [aHV hs,aA,cT,cF]
def rL (k:Int):gE :=
 if k=1 then ⟨true,true,false,false,true,true,true,false,true⟩
 else if k=2 then ⟨true,true,false,false,false,false,true,false,false⟩
 else if k=5 then ⟨true,true,false,false,false,false,true,false,false⟩
 else if k=3 then ⟨true,false,false,false,false,false,false,false,false⟩
 else if k=4 then ⟨false,true,false,false,false,false,false,false,false⟩
 else if k=6 then ⟨false,false,false,true,false,false,false,false,false⟩
 else if k=7 then ⟨false,false,true,false,false,false,true,true,false⟩
 else if k=8 then ⟨false,false,true,false,false,true,false,false,false⟩
 else if k=9 then ⟨false,false,false,false,true,true,false,false,false⟩
 else if k=10 then ⟨false,false,true,false,true,false,true,false,false⟩
 else if k=12 then ⟨false,false,true,false,true,false,true,false,false⟩
 else if k=13 then ⟨false,false,true,false,true,false,true,false,false⟩
 else if k=11 then ⟨false,true,true,false,true,false,true,false,false⟩
 else if k=15 then ⟨true,true,false,false,true,true,true,false,false⟩
 else if k=16 then ⟨false,true,false,false,true,true,false,false,false⟩
 else if k=17 then ⟨false,false,false,false,false,true,false,false,false⟩
 else ⟨false,false,false,false,false,false,false,false,false⟩
theorem aEs (k:Int):tR k=some (rL k):=by
 unfold tR rL
 by_cases h1:k=1
 ·
  simp [h1]
 by_cases h2:k=2
 ·
  simp [h2]
 by_cases h5:k=5
 ·
  simp [h5]
 by_cases h3:k=3
 ·
  simp [h3]
 by_cases h4:k=4
 ·
  simp [h4]
 by_cases h6:k=6
 ·
  simp [h6]
 by_cases h7:k=7
 ·
  simp [h7]
 by_cases h8:k=8
 ·
  simp [h8]
 by_cases h9:k=9
 ·
  simp [h9]
 by_cases h10:k=10
 ·
  simp [h10]
 by_cases h12:k=12
 ·
  simp [h12]
 by_cases h13:k=13
 ·
  simp [h13]
 by_cases h11:k=11
 ·
  simp [h11]
 by_cases h15:k=15
 ·
  simp [h15]
 by_cases h16:k=16
 ·
  simp [h16]
 by_cases h17:k=17
 ·
  simp [h17]
 simp [h1,h2,h3,h4,h5,h6,h7,h8,h9,h10,h11,h12,h13,h15,h16,h17]
def yP (q:bO) (u:gE):Bool :=
 (u.id_||decide (q.ID=[]))&&(u.name_||decide (q.Name=[]))&&(u.token_||decide (q.Token=0))&&(u.event_||decide (q.Event=0))&&(u.seq_||decide (q.Seq=0))&&(u.n_||decide (q.N=0))&&(u.data_||qW q.Data vA)&&(u.commands_||decide ((q.Commands.length:Int)=0))&&(u.parent_||decide (q.Parent=[]))&&aAo q.Opts xF
theorem aFX {q:bO}{u:gE} (h:iO q):wR q u=some (yP q u):=by
 unfold wR yP
 have hd:dF q.Data:=h.2.2.2.2.2.2.2.2.2.2.1
 have ho:gO q.Opts:=h.2.2.2.2.2.2.2.2.2.2.2.1
 rw [show (aE.mk 0 0 [] [] [])=vA from rfl,show (dB.mk [] 0 0 0 0 0 0 0 0 [])=xF from rfl,sE hd,uS ho]
 simp only [gdS,aA,cA,cT,cF]
 have e:∀ a b p c:Bool,(a&&(b||if (a==true&&b==false)=true then p else default)&&c)=(a&&(b||p)&&c):=fun a b p c=>by cases a <;> cases b <;> rfl
 generalize (u.id_||decide (q.ID=[]))=b1
 generalize (u.name_||decide (q.Name=[]))=b2
 generalize (u.token_||decide (q.Token=0))=b3
 generalize (u.event_||decide (q.Event=0))=b4
 generalize (u.seq_||decide (q.Seq=0))=b5
 generalize (u.n_||decide (q.N=0))=b6
 generalize qW q.Data vA=b7
 generalize (u.commands_||decide ((q.Commands.length:Int)=0))=b8
 generalize (u.parent_||decide (q.Parent=[]))=b9
 generalize aAo q.Opts xF=b10
 generalize (b1&&b2&&b3&&b4&&b5&&b6)=a
 cases a <;> cases u.data_ <;> simp
def aKY (k n:Int):Bool :=
 if k=1 then inB n 0 2 else if k=8 then inB n 1 30 else if k=9 then inB n 1 1000 else if k=15 then (decide (n=20)||decide (n=21)||decide (n=22)) else if k=16 then (decide (n=24)||decide (n=25)) else if k=17 then decide (1≤n) else true
theorem aEt (q:bO):tS q=some (aKY q.Kind q.N):=by
 unfold tS aKY
 simp only [aA6,aA,cT]
 simp only [cU]
 split
 ·
  rfl
 split
 ·
  rfl
 split
 ·
  rfl
 split
 ·
  rfl
 split
 ·
  rfl
 split <;> rfl
def aBA (q:bO) (u:gE):Bool :=
 if q.Kind=15 then (aDR q.ID&&decide ((q.Name.length:Int)≤4096)) else if q.Kind=16 then decide ((q.Name.length:Int)≤4096) else if q.Kind=4 then decide ((q.Name.length:Int)≤64) else if q.Kind=11 then mW q.Name else ((!u.id_||mW q.ID)&&(!u.name_||pZ q.Name))
theorem aFa {q:bO}{u:gE} (h:iO q):uY q u=some (aBA q u):=by
 have h1:q.ID.length≤140737488355328:=gF h.2.2.2.2.1 (by decide)
 have h2:q.Name.length≤140737488355328:=gF h.2.2.2.2.2.1 (by decide)
 unfold uY aBA
 rw [aCz h1,xQ (by omega),xQ (by omega),xT]
 simp only [gdS,aA,cA,cT,cF,cO]
 simp only [cU]
 split
 ·
  rfl
 split
 ·
  rfl
 split
 ·
  rfl
 split
 ·
  rfl
 ·
  generalize u.id_=a
  generalize u.name_=b
  cases a <;> cases b <;> cases mW q.ID <;> rfl
theorem aMt {l:List bL} (h:aDa 240 iZ l):eZ l=some (l.any fun c=>!mF c):=by
 unfold eZ gB
 obtain ⟨x,h1,h2⟩:=aAa (body:=fA l) l (fun c=>!mF c) (fun i hi=>by
  unfold fA vD
  rw [cU,aQ (by omega),gJ hi,aA,xG (h.2.2 _ (aX hi)),aA,aA,nJ hi h.1]
  cases mF l[i] <;> rfl) (by
  unfold fA
  rw [cU,aN (by omega)])
 rw [h1,aA,h2]
noncomputable def vK (q:bO):Bool :=
 inB q.Kind 1 17&&(inB q.Time 0 1099511627776&&(yP q (rL q.Kind)&&(rG q.Data &&
  ((if q.Kind=14 then decide (q.Workflow=[]) else mW q.Workflow)&&(aDR q.Run&&((if q.Kind=14∨q.Kind=1 then decide (q.Run=[]) else true) &&
   ((!(rL q.Kind).token_||decide (1≤q.Token))&&((!(rL q.Kind).event_||inB q.Event 1 2000)&&((!(rL q.Kind).seq_||inB q.Seq (if q.Kind=1 then 0 else 1) 2000)&&(aHX q.Parent &&
    (decide (q.Commands.length≤200)&&(q.Commands.all mF&&(aKY q.Kind q.N&&aBA q (rL q.Kind))))))))))))))
theorem xP {q:bO} (h:iO q):sD q=some (vK q):=by
 have hd:dF q.Data:=h.2.2.2.2.2.2.2.2.2.2.1
 have hw:q.Workflow.length≤140737488355328:=gF h.2.2.1 (by decide)
 have hr:q.Run.length≤140737488355328:=gF h.2.2.2.1 (by decide)
 have hp:q.Parent.length≤140737488355328:=gF h.2.2.2.2.2.2.2.2.2.2.2.2.2 (by decide)
 have hc:=h.2.2.2.2.2.2.2.2.2.2.2.2.1
 unfold sD vK
 rw [aEs,aA]
 simp only [aA6,aFX h,aCO hd,xQ (show q.Workflow.length≤9223372036854775807 by omega),aCz hr,aEu hp,aMt hc,aEt,aFa h,aA,gdS]
 generalize rL q.Kind=u
 generalize yP q u=b3
 cases inB q.Kind 1 17
 ·
  simp
 cases inB q.Time 0 1099511627776
 ·
  simp
 cases b3
 ·
  simp
 cases rG q.Data
 ·
  simp
 simp only [bW,bF,eE,eH,bT,cW,pJ]
 generalize aBA q u=b9
 generalize aKY q.Kind q.N=b8
 generalize aHX q.Parent=b7
 generalize aDR q.Run=b6
 have e1:(q.Commands.any fun c=>!mF c)=!q.Commands.all mF:=by rw [dU];simp
 rw [e1]
 generalize q.Commands.all mF=c2
 have e2:decide ((200:Int)<(q.Commands.length:Int))=!decide (q.Commands.length≤200):=by rw [dU];simp;omega
 rw [e2]
 generalize decide (q.Commands.length≤200)=c1
 have e3:decide (q.Token<1)=!decide (1≤q.Token):=by rw [dU];simp
 rw [e3]
 generalize decide (1≤q.Token)=c3
 generalize inB q.Event 1 2000=c4
 generalize u.token_=u3
 generalize u.event_=u4
 generalize u.seq_=u5
 have tail:∀ c5:Bool,(cond (cond (cond (cond (cond u3 (!c3) false) true (cond u4 (!(if ((cond u3 (!c3) false)==false&&u4==true)=true then c4 else default)) false)) true (cond u5 (!(if ((cond (cond u3 (!c3) false) true (cond u4 (!(if ((cond u3 (!c3) false)==false&&u4==true)=true then c4 else default)) false))==false&&u5==true)=true then c5 else default)) false)) true
   (!(if ((cond (cond (cond u3 (!c3) false) true (cond u4 (!(if ((cond u3 (!c3) false)==false&&u4==true)=true then c4 else default)) false)) true (cond u5 (!(if ((cond (cond u3 (!c3) false) true (cond u4 (!(if ((cond u3 (!c3) false)==false&&u4==true)=true then c4 else default)) false))==false&&u5==true)=true then c5 else default)) false))==false)=true then b7 else default)))
   (some false) (cond (cond (!c1) true (if ((!c1)==false)=true then (!c2) else default)) (some false) (some (cond b8 (if (b8==true)=true then b9 else default) false))))=some ((!u3||c3)&&((!u4||c4)&&((!u5||c5)&&(b7&&(c1&&(c2&&(b8&&b9))))))):=by
  intro c5
  cases u3 <;> cases c3 <;> cases u4 <;> cases c4 <;> cases u5 <;> cases c5 <;> cases b7 <;> cases c1 <;> cases c2 <;> cases b8 <;> cases b9 <;> rfl
 by_cases h14:q.Kind=14
 ·
  have h1:¬q.Kind=1:=by omega
  simp only [h14,Int.reduceEq,bS,cQ,bT,dL,true_or,aA,cW,bF,bW]
  by_cases hW:q.Workflow=[]
  ·
   by_cases hR:q.Run=[]
   ·
    cases b6
    ·
     simp [hW,hR]
    ·
     simp only [hW,hR,bS,bW,eH,bT,bF,cW,eE]
     exact tail _
   ·
    cases b6 <;> simp [hW,hR]
  ·
   simp [hW]
 ·
  simp only [h14,cQ,dL,false_or,aA,cW,bF,iV,eH,pJ,bT]
  cases mW q.Workflow
  ·
   simp
  by_cases h1:q.Kind=1
  ·
   simp only [h1,bS,bT,cW,aA]
   by_cases hR:q.Run=[]
   ·
    cases b6
    ·
     simp [hR]
    ·
     simp only [hR,bS,bW,eH,bT,bF,cW,eE]
     exact tail _
   ·
    cases b6 <;> simp [hR]
  ·
   simp only [h1,cQ,dL,bF,aA]
   cases b6
   ·
    simp
   ·
    simp only [bW,eH,bT,bF,cW,eE]
    exact tail _
theorem cS (c x:Bool):cond c (some false) (some x)=some (!c&&x):=by cases c <;> rfl
theorem aFb {a:List bL}:kB a []=some (decide ((a.length:Int)=0)):=by
 unfold kB
 by_cases h:a=[]
 ·
  subst h
  rw [aKF (r:=.go ()) (by unfold jJ;rfl)]
  rfl
 ·
  have:¬(a.length:Int)=0:=fun hh=>h (eI (by omega))
  simp [this,h]
theorem aEv {a:List bL} (h:aDa 240 iZ a):kB a a=some true:=by
 unfold kB
 rw [lI rfl,bW,bF,kZ a.length (fun _=>true) false (fun i hi=>?_) ?_]
 ·
  simp [Fl.next]
 ·
  unfold jJ
  rw [cU,aN (by omega)]
 ·
  unfold jJ
  have hc:=h.2.2 _ (aX hi)
  rw [cU,aQ (by omega),gJ hi,aA,aA,aBJ hc.2.2.2.2.2.1 hc.2.2.2.2.2.2,nJ hi h.1]
  simp [aBU,aDL]
theorem aHh {q:bO} (h:iO q):oT q q=some true:=by
 have hd:dF q.Data:=h.2.2.2.2.2.2.2.2.2.2.1
 have ho:gO q.Opts:=h.2.2.2.2.2.2.2.2.2.2.2.1
 have hc:=h.2.2.2.2.2.2.2.2.2.2.2.2.1
 unfold oT
 rw [xO hd,rE ho,aEv hc,aBU,aDL]
 simp [gd]
theorem aNT {a:bO}{k:Int} (hd:dF a.Data) (ho:gO a.Opts):oT a ⟨k,0,[],[],[],[],0,0,0,0,vA,xF,[],[]⟩=some (decide (a.Kind=k)&&(decide (a.Time=0)&&(decide (a.Workflow=[])&&(decide (a.Run=[])&&(decide (a.ID=[])&&(decide (a.Name=[])&&(decide (a.Parent=[]) &&
  (decide (a.Token=0)&&(decide (a.Event=0)&&(decide (a.Seq=0)&&(decide (a.N=0)&&(qW a.Data vA&&(aAo a.Opts xF&&decide ((a.Commands.length:Int)=0)))))))))))))):=by
 unfold oT
 simp only
 rw [xO hd,rE ho,aFb]
 simp only [gdS,aA,cA,cT,cF,cS,Bool.not_or,Bool.not_not,Bool.and_assoc]
 have e:∀ x y z:Bool,(x&&((if (x==true)=true then y else default)&&(if ((x&&if (x==true)=true then y else default)==true)=true then z else default)))=(x&&(y&&z)):=fun x y z=>by cases x <;> cases y <;> cases z <;> rfl
 rw [e]
def aIn (q:bO):bO :=
 ⟨q.Kind,0,if q.Kind=14 then q.Workflow else [],if q.Kind=14∨q.Kind=1 then q.Run else [],if (rL q.Kind).id_ then [] else q.ID,if (rL q.Kind).name_ then [] else q.Name,if (rL q.Kind).token_ then 0 else q.Token,if (rL q.Kind).event_ then 0 else q.Event,
  if (rL q.Kind).seq_ then 0 else q.Seq,if (rL q.Kind).n_ then 0 else q.N,if (rL q.Kind).data_ then vA else q.Data,q.Opts,if (rL q.Kind).commands_ then [] else q.Commands,if (rL q.Kind).parent_ then [] else q.Parent⟩
theorem aJb (q:bO):aDP q=some (aIn q):=by
 unfold aDP aIn rL
 obtain ⟨k,tm,wf,rn,id,nm,tk,ev,sq,n,d,o,cs,pr⟩:=q
 simp only
 by_cases h1:k=1
 ·
  subst h1;rfl
 by_cases h2:k=2
 ·
  subst h2;rfl
 by_cases h5:k=5
 ·
  subst h5;rfl
 by_cases h3:k=3
 ·
  subst h3;rfl
 by_cases h4:k=4
 ·
  subst h4;rfl
 by_cases h6:k=6
 ·
  subst h6;rfl
 by_cases h7:k=7
 ·
  subst h7;rfl
 by_cases h8:k=8
 ·
  subst h8;rfl
 by_cases h9:k=9
 ·
  subst h9;rfl
 by_cases h10:k=10
 ·
  subst h10;rfl
 by_cases h12:k=12
 ·
  subst h12;rfl
 by_cases h13:k=13
 ·
  subst h13;rfl
 by_cases h11:k=11
 ·
  subst h11;rfl
 by_cases h14:k=14
 ·
  subst h14;rfl
 by_cases h15:k=15
 ·
  subst h15;rfl
 by_cases h16:k=16
 ·
  subst h16;rfl
 by_cases h17:k=17
 ·
  subst h17;rfl
 simp [h1,h2,h3,h4,h5,h6,h7,h8,h9,h10,h11,h12,h13,h14,h15,h16,h17,Fl.next]
theorem dI {α:Type} [DecidableEq α] {u:Bool}{x z:α}:decide ((if u=true then z else x)=z)=(u||decide (x=z)):=by cases u <;> simp
theorem dV {u:Bool}{x:aE}:qW (if u=true then vA else x) vA=(u||qW x vA):=by cases u <;> simp [aBU]
theorem dC {u:Bool}{x:List bL}:decide (((if u=true then [] else x).length:Int)=0)=(u||decide ((x.length:Int)=0)):=by cases u <;> simp
theorem aNs {q:bO} (h:iO q):oT (aIn q) ⟨q.Kind,0,[],[],[],[],0,0,0,0,vA,xF,[],[]⟩=some (yP q (rL q.Kind)&&((if q.Kind=14 then decide (q.Workflow=[]) else true)&&(if q.Kind=14∨q.Kind=1 then decide (q.Run=[]) else true))):=by
 have hd:dF q.Data:=h.2.2.2.2.2.2.2.2.2.2.1
 have ho:gO q.Opts:=h.2.2.2.2.2.2.2.2.2.2.2.1
 rw [aNT (a:=aIn q) (by unfold aIn;simp only;split;exact aKO;exact hd) ho]
 unfold aIn yP
 simp only [dI,dV,dC,bS,eE]
 have e1:decide ((if q.Kind=14 then q.Workflow else [])=[])=(if q.Kind=14 then decide (q.Workflow=[]) else true):=by split <;> simp
 have e2:decide ((if q.Kind=14∨q.Kind=1 then q.Run else [])=[])=(if q.Kind=14∨q.Kind=1 then decide (q.Run=[]) else true):=by split <;> simp
 rw [e1,e2]
 congr 1
 ac_rfl
theorem aL8 {α τ:Type} (l:List α) (p:α→Bool) (b:τ) {body:Int→Option (dG Int (Fl τ Unit))} (h:∀ (i:Nat) (hi:i<l.length),body (i:Int)=some (if p l[i] then .next ((i+1:Nat):Int) else .out (.done b)))
  (hout:body (l.length:Int)=some (.out (.go ()))):fX body (0:Int)=some (if l.all p then .go () else .done b):=by
 refine aC3 (fun s=>∃ i:Nat,s=(i:Int)∧i≤l.length∧∀ (j:Nat) (hj:j<l.length),j<i→p l[j]=true) (fun s=>l.length - s.toNat) (fun _=>(if l.all p then Fl.go () else Fl.done b:Fl τ Unit)) ?_ _ ⟨0,rfl,by omega,by omega⟩
 rintro s ⟨i,rfl,hi,hp⟩
 by_cases hlt:i<l.length
 ·
  rw [h i hlt]
  by_cases hpi:p l[i]=true
  ·
   rw [aQ hpi]
   exact .inl ⟨_,rfl,⟨i+1,rfl,hlt,fun j hj hji=>by rcases Nat.lt_succ_iff_lt_or_eq.1 hji with h1 | rfl;exact hp j hj h1;exact hpi⟩,by simp;omega,rfl⟩
  ·
   rw [aN hpi,aN (fun ha=>hpi (bM.1 ha _ (aX hlt)))]
   exact .inr rfl
 ·
  obtain rfl:i=l.length:=by omega
  rw [hout,aQ (bM.2 fun x hx=>by obtain ⟨j,hj,rfl⟩:=oK.1 hx;exact hp j hj hj)]
  exact .inr rfl
theorem aES {l:List bL} (h:aDa 240 iZ l):uQ l=some (l.all mF&&decide (l.length≤200)):=by
 unfold uQ
 rw [aL8 l mF false (fun i hi=>?_) ?_,aA]
 ·
  have e:decide ((l.length:Int)≤200)=decide (l.length≤200):=by rw [dU];simp;omega
  rw [e]
  cases l.all mF <;> simp [Fl.next]
 ·
  unfold rO
  rw [cU,aN (by omega)]
 ·
  unfold rO
  rw [cU,aQ (by omega),gJ hi,aA,aDp (h.2.2 _ (aX hi)),aA,nJ hi h.1]
  cases mF l[i] <;> rfl
noncomputable def aPp (q:bO):Bool :=
 if q.Kind=1 then (mW q.ID&&(pZ q.Name&&(inB q.N 0 2&&(aHX q.Parent&&inB q.Seq 0 2000))))
 else if q.Kind=2∨q.Kind=5 then (mW q.ID&&pZ q.Name)
 else if q.Kind=3 then mW q.ID
 else if q.Kind=4 then decide ((q.Name.length:Int)≤64)
 else if q.Kind=6 then inB q.Event 1 2000
 else if q.Kind=7 then (decide (1≤q.Token)&&(q.Commands.all mF&&decide (q.Commands.length≤200)))
 else if q.Kind=8 then (decide (1≤q.Token)&&inB q.N 1 30)
 else if q.Kind=9 then (inB q.Seq 1 2000&&inB q.N 1 1000)
 else if q.Kind=10∨q.Kind=12∨q.Kind=13 then (decide (1≤q.Token)&&inB q.Seq 1 2000)
 else if q.Kind=11 then (decide (1≤q.Token)&&(inB q.Seq 1 2000&&mW q.Name))
 else if q.Kind=15 then (inB q.Seq 1 2000&&(inB q.N 20 22&&(decide ((q.Name.length:Int)≤4096)&&aDR q.ID)))
 else if q.Kind=16 then (inB q.Seq 1 2000&&(inB q.N 24 25&&decide ((q.Name.length:Int)≤4096)))
 else decide (1≤q.N)
noncomputable def aGr (q:bO):Bool :=
 inB q.Kind 1 17&&(inB q.Time 0 1099511627776&&((yP q (rL q.Kind)&&((if q.Kind=14 then decide (q.Workflow=[]) else true)&&(if q.Kind=14∨q.Kind=1 then decide (q.Run=[]) else true)))&&(rG q.Data&&(aDR q.Run&&(if q.Kind=14 then true else (mW q.Workflow&&aPp q))))))
theorem aR4 {k a b:Int}:(cond (decide (k=a)) (some (decide (k=a))) (some (decide (k=b))))=some (decide (k=a∨k=b)):=by
 by_cases h:k=a
 ·
  rw [lI h];simp [h]
 ·
  rw [decide_eq_false h];simp [h]
theorem aSO {k a b c:Int}:(cond (decide (k=a)) (some (decide (k=a))) (cond (decide (k=b)) (some (decide (k=b))) (some (decide (k=c)))))=some (decide (k=a∨k=b∨k=c)):=by
 by_cases h:k=a
 ·
  rw [lI h];simp [h]
 ·
  rw [decide_eq_false h,aR4];simp [h]
theorem aDq {q:bO} (h:iO q):aCy q=some (aGr q):=by
 have hd:dF q.Data:=h.2.2.2.2.2.2.2.2.2.2.1
 have hw:q.Workflow.length≤140737488355328:=gF h.2.2.1 (by decide)
 have hr:q.Run.length≤140737488355328:=gF h.2.2.2.1 (by decide)
 have hi:q.ID.length≤140737488355328:=gF h.2.2.2.2.1 (by decide)
 have hp:q.Parent.length≤140737488355328:=gF h.2.2.2.2.2.2.2.2.2.2.2.2.2 (by decide)
 have hc:=h.2.2.2.2.2.2.2.2.2.2.2.2.1
 unfold aCy aGr
 rw [show (aE.mk 0 0 [] [] [])=vA from rfl,show (dB.mk [] 0 0 0 0 0 0 0 0 [])=xF from rfl,aJb]
 simp only [aMg,aDr hd,aFF hr,aFF hi,aFG,xY,aK6 hp,aES hc,aR4,aSO]
 cases inB q.Kind 1 17
 ·
  rfl
 cases inB q.Time 0 1099511627776
 ·
  rfl
 simp only [aA,bW,bF,eH,eE]
 have g1:∀ {α:Type} [Inhabited α] (m:Option α),gd true m=m:=fun m=>rfl
 rw [g1,aA]
 simp only [bW,bF,eH]
 rw [g1,aA,g1,aNs h,aA]
 generalize (yP q (rL q.Kind)&&((if q.Kind=14 then decide (q.Workflow=[]) else true)&&(if q.Kind=14∨q.Kind=1 then decide (q.Run=[]) else true)))=b
 cases b
 ·
  rfl
 cases rG q.Data
 ·
  rfl
 cases aDR q.Run
 ·
  rfl
 simp only [gdS,aA,bW,bF,eH,bT,eE]
 rw [cU]
 by_cases h14:q.Kind=14
 ·
  rw [aQ h14,aQ h14]
 rw [aN h14,aN h14]
 cases mW q.Workflow
 ·
  rfl
 simp only [bW,bF,eE]
 unfold aPp aHX
 simp only [cA,cT,cF,Bool.and_assoc]
 simp only [cU]
 generalize mW q.ID=a1
 generalize pZ q.Name=a2
 generalize inB q.N 0 2=a3
 generalize (decide (q.Parent=[])||(yX q.Parent).2.2&&decide ((q.Parent.length:Int)≤4096))=a4
 generalize inB q.Seq 0 2000=a5
 generalize decide (1≤q.Token)=a6
 generalize (q.Commands.all mF&&decide (q.Commands.length≤200))=a7
 generalize inB q.N 1 30=a8
 generalize inB q.Seq 1 2000=a9
 generalize inB q.N 1 1000=b1
 generalize mW q.Name=b2
 generalize inB q.N 20 22=b3
 generalize decide ((q.Name.length:Int)≤4096)=b4
 generalize aDR q.ID=b5
 generalize inB q.N 24 25=b6
 by_cases h1:q.Kind=1
 ·
  rw [aQ h1,aQ h1];cases a1 <;> cases a2 <;> cases a3 <;> cases a4 <;> cases a5 <;> rfl
 rw [aN h1,aN h1]
 by_cases h2:q.Kind=2∨q.Kind=5
 ·
  rw [aQ h2,aQ h2]
 rw [aN h2,aN h2]
 by_cases h3:q.Kind=3
 ·
  rw [aQ h3,aQ h3]
 rw [aN h3,aN h3]
 by_cases h4:q.Kind=4
 ·
  rw [aQ h4,aQ h4]
 rw [aN h4,aN h4]
 by_cases h6:q.Kind=6
 ·
  rw [aQ h6,aQ h6]
 rw [aN h6,aN h6]
 by_cases h7:q.Kind=7
 ·
  rw [aQ h7,aQ h7];cases a6 <;> rfl
 rw [aN h7,aN h7]
 by_cases h8:q.Kind=8
 ·
  rw [aQ h8,aQ h8];cases a6 <;> rfl
 rw [aN h8,aN h8]
 by_cases h9:q.Kind=9
 ·
  rw [aQ h9,aQ h9];cases a9 <;> rfl
 rw [aN h9,aN h9]
 have e10:(if q.Kind=10 then some (decide (q.Kind=10)) else some (decide (q.Kind=12∨q.Kind=13)))=some (decide (q.Kind=10∨q.Kind=12∨q.Kind=13)):=by
  by_cases h:q.Kind=10 <;> simp [h]
 rw [e10,aA,cU]
 by_cases h10:q.Kind=10∨q.Kind=12∨q.Kind=13
 ·
  rw [aQ h10,aQ h10]
 rw [aN h10,aN h10]
 by_cases h11:q.Kind=11
 ·
  rw [aQ h11,aQ h11];cases a6 <;> cases a9 <;> rfl
 rw [aN h11,aN h11]
 by_cases h15:q.Kind=15
 ·
  rw [aQ h15,aQ h15];cases a9 <;> cases b3 <;> cases b4 <;> rfl
 rw [aN h15,aN h15]
 by_cases h16:q.Kind=16
 ·
  rw [aQ h16,aQ h16];cases a9 <;> rfl
 rw [aN h16,aN h16]
theorem aRi {n:Int}:(decide (n=20)||decide (n=21)||decide (n=22))=inB n 20 22:=by unfold inB;rw [dU];simp;omega
theorem aRj {n:Int}:(decide (n=24)||decide (n=25))=inB n 24 25:=by unfold inB;rw [dU];simp;omega
theorem aIC (q:bO):vK q=aGr q:=by
 unfold vK aGr
 cases hK:inB q.Kind 1 17
 ·
  rfl
 cases inB q.Time 0 1099511627776
 ·
  rfl
 cases hb:yP q (rL q.Kind)
 ·
  rfl
 cases rG q.Data
 ·
  simp
 simp only [eE]
 have hP:(rL q.Kind).parent_=false→aHX q.Parent=true:=fun hu=>by
  unfold yP at hb
  rw [hu] at hb
  simp only [aM,nC,bG] at hb
  unfold aHX
  simp [hb.1.2]
 have hC:(rL q.Kind).commands_=false→q.Commands.all mF=true∧decide (q.Commands.length≤200)=true:=fun hu=>by
  unfold yP at hb
  rw [hu] at hb
  simp only [aM,nC,bG] at hb
  have:q.Commands=[]:=eI (by omega)
  simp [this]
 clear hb
 unfold inB at hK
 simp only [aM,bG] at hK
 unfold aPp aKY aBA
 rw [aRi,aRj]
 generalize q.Commands.all mF=c1 at *
 generalize decide (q.Commands.length≤200)=c2 at *
 generalize aHX q.Parent=c3 at *
 generalize aDR q.Run=c4
 generalize aDR q.ID=c5
 generalize mW q.Workflow=c6
 generalize mW q.ID=c7
 generalize mW q.Name=c8
 generalize pZ q.Name=c9
 generalize decide (q.Workflow=[])=d1
 generalize decide (q.Run=[])=d2
 generalize decide (1≤q.Token)=d3
 generalize inB q.Event 1 2000=d4
 generalize decide ((q.Name.length:Int)≤4096)=d5
 generalize decide ((q.Name.length:Int)≤64)=d6
 generalize q.Kind=k at *
 have hk:k=1∨k=2∨k=3∨k=4∨k=5∨k=6∨k=7∨k=8∨k=9∨k=10∨k=11∨k=12∨k=13∨k=14∨k=15∨k=16∨k=17:=by omega
 rcases hk with rfl | rfl | rfl | rfl | rfl | rfl | rfl | rfl | rfl | rfl | rfl | rfl | rfl | rfl | rfl | rfl | rfl <;> simp [rL] at hP hC ⊢ <;> simp [hP,hC] <;> ac_rfl
theorem aAG {xs:List UInt8} (h:xs.length≤140737488355328):jA xs=some xs:=by
 rw [jA,uM (by simpa using h)];simp
theorem aCX {b:List UInt8}{n:Int} (hb:b.length≤10000000000000) (h1:-9223372036854775808≤n) (h2:n≤9223372036854775807):gV b n=some (b++qX (zz n)):=by
 have hv:=aAB (aFM h1 h2)
 unfold gV
 rw [aAG (by omega),aA,sh1,aSU,aMw h1 h2]
 obtain ⟨r,hr,u,hu,hlt,he⟩:=vB (body:=xB) (fun s=>∃ u:Nat,s.2=(u:Int)∧u<18446744073709551616∧s.1++qX u=b++qX (zz n)) (fun s=>s.2.toNat)
  (fun r=>∃ u:Nat,r.2=(u:Int)∧u<128∧r.1++qX u=b++qX (zz n)) (fun s ⟨u,hu,hlt,he⟩=>by
   have hlen:s.1.length+(qX u).length=b.length+(qX (zz n)).length:=by simpa using mT List.length he
   unfold xB
   rw [hu,cU]
   by_cases h:u<128
   ·
    rw [aN (by omega)]
    exact .inr ⟨_,rfl,u,rfl,h,he⟩
   ·
    rw [aQ (by omega),aSy,aD6 (by omega),aA,uM (by simp;omega),aA,sh7,aSV]
    refine .inl ⟨_,rfl,⟨u / 128,rfl,by omega,?_⟩,by simp;omega⟩
    rw [← he,aGv h,cX,List.singleton_append]) (b,(zz n:Nat)) ⟨zz n,rfl,aFM h1 h2,rfl⟩
 have hlen:r.1.length+(qX u).length=b.length+(qX (zz n)).length:=by simpa using mT List.length he
 rw [hr,aA,hu,aEQ (aM9 (by omega)),aA,uM (by simp;omega),aA,← aEC hlt,he]
theorem aGa {b s:List UInt8} (hb:b.length≤10000000000000) (hs:s.length≤10000000000000):kX b s=some (b++qX (zz s.length)++s):=by
 have hv:=aAB (aFM (n:=(s.length:Int)) (by omega) (by omega))
 unfold kX
 rw [aCX (by omega) (by omega) (by omega),aA,uM (by simp;omega),aA]
theorem aN8 {n:Int} (h1:-9223372036854775808≤n) (h2:n≤9223372036854775807):aBB n=some (zz n:Int):=by
 unfold aBB
 rw [cU]
 by_cases h:0≤n
 ·
  rw [aQ h];congr 1;simp only [IntKind.wrap_u64,zz,h,bT];omega
 ·
  rw [aN h];congr 1;simp only [IntKind.wrap_u64,IntKind.wrap_i64,zz,h,dL];omega
theorem aEr {b:List UInt8}{n:Int} (hb:b.length≤10000000000000) (h1:-9223372036854775808≤n) (h2:n≤9223372036854775807):kA b n=some (b++qX (zz n)):=by
 have hv:=aAB (aFM h1 h2)
 unfold kA
 rw [uM (by simp;omega),aA,hH,aN8 h1 h2,aA]
 obtain ⟨r,hr,u,hu,hlt,he⟩:=vB (body:=yQ) (fun s=>∃ u:Nat,s.2=(u:Int)∧u<18446744073709551616∧s.1++qX u=b++qX (zz n)) (fun s=>s.2.toNat)
  (fun r=>∃ u:Nat,r.2=(u:Int)∧u<128∧r.1++qX u=b++qX (zz n)) (fun s ⟨u,hu,hlt,he⟩=>by
   have hlen:s.1.length+(qX u).length=b.length+(qX (zz n)).length:=by simpa using mT List.length he
   unfold yQ
   rw [hu,cU]
   by_cases h:u<128
   ·
    rw [aN (by omega)]
    exact .inr ⟨_,rfl,u,rfl,h,he⟩
   ·
    rw [aQ (by omega)]
    have e:IntKind.u8.wrap (IntKind.u64.wrap ((u:Int).tmod 128+128))=((128+u % 128:Nat):Int):=by
     rw [IntKind.wrap_u64,IntKind.wrap_u8,jV (by omega)];omega
    rw [e,aD6 (by omega),aA,uM (by simp;omega),aA]
    have e2:IntKind.u64.wrap ((u:Int).tdiv 128)=((u / 128:Nat):Int):=by rw [IntKind.wrap_u64,nY (by omega)];omega
    rw [e2]
    refine .inl ⟨_,rfl,⟨u / 128,rfl,by omega,?_⟩,by simp;omega⟩
    rw [← he,aGv h,cX,List.singleton_append]) (b,(zz n:Nat)) ⟨zz n,rfl,aFM h1 h2,rfl⟩
 have hlen:r.1.length+(qX u).length=b.length+(qX (zz n)).length:=by simpa using mT List.length he
 rw [hr,aA,hu,aEQ (aM9 (by omega)),aA,uM (by simp;omega),aA,← aEC hlt,he]
theorem aH2 {b s:List UInt8} (hb:b.length≤10000000000000) (hs:s.length≤10000000000000):lP b s=some (b++qX (zz s.length)++s):=by
 have hv:=aAB (aFM (n:=(s.length:Int)) (by omega) (by omega))
 unfold lP
 rw [aEr (by omega) (by omega) (by omega),aA]
 rw [aC3 (body:=xL s) (fun x=>∃ i:Nat,x.2=(i:Int)∧i≤s.length∧x.1=b++qX (zz s.length)++s.take i) (fun x=>s.length - x.2.toNat) (fun _=>b++qX (zz s.length)++s) ?_ (b++qX (zz s.length),0) ⟨0,rfl,by omega,by simp⟩]
 ·
  rfl
 ·
  rintro ⟨o,i0⟩ ⟨i,hi0,hi,ho⟩
  simp only at hi0 ho
  subst hi0 ho
  unfold xL
  rw [cU]
  by_cases h:i<s.length
  ·
   rw [aQ (by omega),aEd,aD h,aA,aGE,aA,uM (by simp;omega),aA]
   refine .inl ⟨_,rfl,⟨i+1,by rw [w64 (by omega) (by omega)];rfl,h,?_⟩,by simp only [w64 (show (-9223372036854775808:Int)≤(i:Int)+1 by omega) (by omega)];omega,rfl⟩
   rw [eT h];simp
  ·
   rw [aN (by omega),fW (by omega)]
   exact .inr rfl

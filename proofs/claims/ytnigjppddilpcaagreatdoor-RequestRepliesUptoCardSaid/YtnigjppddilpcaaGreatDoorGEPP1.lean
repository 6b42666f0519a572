/- Plain laws: what the functions compute, with no program in sight. -/
import Derived.Test.YtnigjppddilpcaaGreatDoorGEPP0
import Derived.Test.YtnigjppddilpcaaGreatDoorGEF2
import Derived.Test.YtnigjppddilpcaaGreatDoorGEF3
import Derived.Test.YtnigjppddilpcaaGreatDoorGEF9
import Derived.Test.YtnigjppddilpcaaGreatDoorLib
import Derived.Test.YtnigjppddilpcaaGreatDoorGEF13
import Derived.Test.YtnigjppddilpcaaGreatDoorGEF15
import Derived.Test.YtnigjppddilpcaaGreatDoorPk2
import Derived.Test.YtnigjppddilpcaaGreatDoorGEF5
import Derived.Test.YtnigjppddilpcaaGreatDoorGEF10
import Derived.Test.YtnigjppddilpcaaGreatDoorGEF11
import Derived.Test.YtnigjppddilpcaaGreatDoorGEF14
import Derived.Test.YtnigjppddilpcaaGreatDoorGEF16
import Derived.Test.YtnigjppddilpcaaGreatDoorGEF0
import Derived.Test.YtnigjppddilpcaaGreatDoorGEF7
namespace Go.Proofs.YtnigjppddilpcaaGreatDoor
open Go Abs
set_option linter.unusedSimpArgs false
set_option linter.unusedVariables false
def sR:aK:=⟨0,0,[],[],[]⟩
def yF:dR:=⟨[],0,0,0,0,0,0,0,0,[]⟩
theorem aNy:dX sR:=by
 refine (gF _).2 ⟨?_,?_,?_,?_,?_⟩ <;> simp [sR,uQ,okS,aEy]
def lD (k:Int):kE :=
 if k=1 then ⟨true,true,false,false,true,true⟩
 else if k=2 then ⟨true,false,false,false,false,false⟩
 else if k=3 then ⟨true,false,false,true,false,false⟩
 else if k=4 then ⟨true,false,false,false,false,false⟩
 else if k=5 then ⟨true,true,true,true,true,false⟩
 else if k=6 then ⟨true,true,true,false,true,false⟩
 else if k=7 then ⟨false,true,false,true,true,false⟩
 else if k=8 then ⟨false,true,true,false,true,false⟩
 else if k=9 then ⟨false,false,true,true,true,false⟩
 else if k=12 then ⟨false,true,false,false,true,false⟩
 else ⟨false,false,false,false,true,false⟩
theorem aQH (k:Int):xH k=some (lD k):=by
 unfold xH lD
 by_cases h1:k=1
 ·
  simp [h1]
 by_cases h2:k=2
 ·
  simp [h2]
 by_cases h3:k=3
 ·
  simp [h3]
 by_cases h4:k=4
 ·
  simp [h4]
 by_cases h5:k=5
 ·
  simp [h5]
 by_cases h6:k=6
 ·
  simp [h6]
 by_cases h7:k=7
 ·
  simp [h7]
 by_cases h8:k=8
 ·
  simp [h8]
 by_cases h9:k=9
 ·
  simp [h9]
 by_cases h12:k=12
 ·
  simp [h12]
 simp [h1,h2,h3,h4,h5,h6,h7,h8,h9,h12]
def aEn (c:cK) (u:kE):Bool :=
 (u.seq_||decide (c.Seq=0))&&(u.name_||decide (c.Name=[]))&&(u.key_||decide (c.Key=[]))&&(u.n_||decide (c.N=0))&&(u.data_||rT c.Data sR)&&(u.opts_||aBr c.Opts yF)
theorem aS6 {c:cK}{u:kE} (h:mC c):aAo c u=some (aEn c u):=by
 unfold aAo aEn
 have hd:dX c.Data:=h.2.2.2.2.2.1
 have ho:iL c.Opts:=h.2.2.2.2.2.2
 rw [show (aK.mk 0 0 [] [] [])=sR from rfl,show (dR.mk [] 0 0 0 0 0 0 0 0 [])=yF from rfl,aC7 hd,aCX ho]
 cases u.seq_ <;> cases u.name_ <;> cases u.key_ <;> cases u.n_ <;> cases decide (c.Seq=0) <;> cases decide (c.Name=[]) <;> cases decide (c.Key=[]) <;> cases decide (c.N=0) <;> first | rfl | (cases u.data_ <;> cases u.opts_ <;> cases rT c.Data sR <;> rfl)
def aQQ (c:cK):Bool :=
 if c.Kind=3 then inB c.N 1 1099511627776
 else if c.Kind=5 then inB c.N 0 2
 else if c.Kind=9 then inB c.N 0 1
 else if c.Kind=7 then decide (c.N=-1)||(inB c.N 0 2147483647&&decide (c.Data.Kind=0))
 else if c.Kind=10 then decide (c.Data.Kind=5)
 else if c.Kind=14 then aB9 c.Data
 else true
theorem aQR {c:cK} (h:mC c):xI c=some (aQQ c):=by
 unfold xI aQQ
 rw [aR0 h.2.2.2.2.2.1]
 simp only [zD,dO,aA]
 by_cases h3:c.Kind=3
 ·
  simp only [h3,cL]
 by_cases h5:c.Kind=5
 ·
  simp only [h5,cL,Int.reduceEq,dZ]
 by_cases h9:c.Kind=9
 ·
  simp only [h9,cL,Int.reduceEq,dZ]
 by_cases h7:c.Kind=7
 ·
  simp only [h7,cL,Int.reduceEq,dZ]
  by_cases hn:c.N=-1
  ·
   simp [hn,gd]
  ·
   cases inB c.N 0 2147483647 <;> by_cases hk:c.Data.Kind=0 <;> simp [hn,hk,gd]
 by_cases h10:c.Kind=10
 ·
  simp only [h10,cL,Int.reduceEq,dZ]
 by_cases h14:c.Kind=14
 ·
  simp only [h14,cL,Int.reduceEq,dZ]
 simp only [h3,h5,h9,h7,h10,h14,dZ]
noncomputable def mE (c:cK):Bool :=
 inB c.Kind 1 14&&aEn c (lD c.Kind)&&kR c.Data&&rZ c.Opts&&(!(lD c.Kind).seq_||inB c.Seq 1 2000)&&(!(lD c.Kind).key_||lJ c.Key)
  && (!(lD c.Kind).name_||(if c.Kind=12 then !oD c.Name else nL c.Name))&&aQQ c
theorem yG {c:cK} (h:mC c):rP c=some (mE c):=by
 have hd:dX c.Data:=h.2.2.2.2.2.1
 have ho:iL c.Opts:=h.2.2.2.2.2.2
 have hk:c.Key.length≤9223372036854775807:=hG h.2.2.2.1 (by decide)
 unfold rP mE
 rw [aQH,aA]
 simp only [aS6 h,aAM hd,aB0 ho,aJB hk,wJ,aQR h,zD,aA]
 generalize lD c.Kind=u
 obtain ⟨useq,uname,ukey,un,udata,uopts⟩:=u
 simp only
 generalize aEn c _=b
 cases inB c.Kind 1 14
 ·
  simp [gd]
 cases b
 ·
  simp [gd]
 cases kR c.Data
 ·
  simp [gd]
 cases rZ c.Opts
 ·
  simp [gd]
 simp only [cJ,bP,eJ,gd,cL,aA,dW]
 have hl:decide ((4096:Int)<(c.Name.length:Int))=oD c.Name:=rfl
 rw [hl]
 by_cases h12:c.Kind=12
 ·
  simp only [h12,cG,cJ,dM,bP,cL]
  cases useq <;> cases ukey <;> cases uname <;> cases inB c.Seq 1 2000 <;> cases lJ c.Key <;> cases oD c.Name <;> cases aQQ c <;> rfl
 ·
  simp only [h12,dK,iT,dM,bP,dZ]
  cases useq <;> cases ukey <;> cases uname <;> cases inB c.Seq 1 2000 <;> cases lJ c.Key <;> cases nL c.Name <;> cases aQQ c <;> rfl
theorem aND:rZ yF=true:=by decide
theorem aFP {p:dR} (h:aBr p yF=true):p=yF:=by
 unfold aBr at h
 simp only [aR,bU] at h
 obtain ⟨⟨⟨⟨⟨⟨⟨⟨⟨h1,h2⟩,h3⟩,h4⟩,h5⟩,h6⟩,h7⟩,h8⟩,h9⟩,h10⟩:=h
 cases p;simp_all [yF]
theorem aA6 (v:aK):rT v v=true:=(aLF (hgt v) v v (eP _)).2 rfl
theorem aDI (p:dR):aBr p p=true:=by simp [aBr]
theorem aGU {a b:cK} (hd:dX a.Data) (ho:iL a.Opts):aAc a b=some (decide (a.Kind=b.Kind)&&decide (a.Seq=b.Seq)&&decide (a.Name=b.Name)&&decide (a.Key=b.Key)&&decide (a.N=b.N)&&rT a.Data b.Data&&aBr a.Opts b.Opts):=by
 unfold aAc
 rw [aCm hd,uU ho]
 cases decide (a.Kind=b.Kind) <;> cases decide (a.Seq=b.Seq) <;> cases decide (a.Name=b.Name) <;> cases decide (a.Key=b.Key) <;> cases decide (a.N=b.N) <;> first | rfl | (cases rT a.Data b.Data <;> rfl)
def aLg (c:cK):cK :=
 ⟨c.Kind,if (lD c.Kind).seq_ then 0 else c.Seq,if (lD c.Kind).name_ then [] else c.Name,if (lD c.Kind).key_ then [] else c.Key,if (lD c.Kind).n_ then 0 else c.N,
  if (lD c.Kind).data_ then sR else c.Data,if (lD c.Kind).opts_ then yF else c.Opts⟩
theorem aPd (c:cK):aCh c=some (aLg c):=by
 unfold aCh aLg lD
 obtain ⟨k,sq,nm,ky,n,d,o⟩:=c
 simp only
 by_cases h1:k=1
 ·
  subst h1;rfl
 by_cases h2:k=2
 ·
  subst h2;rfl
 by_cases h3:k=3
 ·
  subst h3;rfl
 by_cases h4:k=4
 ·
  subst h4;rfl
 by_cases h5:k=5
 ·
  subst h5;rfl
 by_cases h6:k=6
 ·
  subst h6;rfl
 by_cases h7:k=7
 ·
  subst h7;rfl
 by_cases h8:k=8
 ·
  subst h8;rfl
 by_cases h9:k=9
 ·
  subst h9;rfl
 by_cases h12:k=12
 ·
  subst h12;rfl
 simp [h1,h2,h3,h4,h5,h6,h7,h8,h9,h12,sR]
theorem aC4 {c:cK} (h:mC c):xR c=some (mE c):=by
 have hd:dX c.Data:=h.2.2.2.2.2.1
 have ho:iL c.Opts:=h.2.2.2.2.2.2
 unfold xR mE
 rw [aPd,zH hd,wK,aIn,aCQ ho,aNJ hd]
 have hb:aAc (aLg c) ⟨c.Kind,0,[],[],0,sR,yF⟩=some (aEn c (lD c.Kind)):=by
  rw [aGU (by unfold aLg;simp only;split;exact aNy;exact hd) (by
   unfold aLg;simp only;split
   ·
    refine ⟨?_,?_,?_,?_,?_,?_,?_,?_,?_,?_⟩ <;> simp [yF,uQ,okS,aEy]
   ·
    exact ho)]
  unfold aLg aEn
  generalize lD c.Kind=u
  obtain ⟨useq,uname,ukey,un,udata,uopts⟩:=u
  have z1:=aA6 sR
  have z2:=aDI yF
  cases useq <;> cases uname <;> cases ukey <;> cases un <;> cases udata <;> cases uopts <;> simp [z1,z2]
 simp only [aFS,aA]
 cases hin:inB c.Kind 1 14
 ·
  simp [gd]
 rw [show (cK.mk c.Kind 0 [] [] 0 ⟨0,0,[],[],[]⟩ ⟨[],0,0,0,0,0,0,0,0,[]⟩)=⟨c.Kind,0,[],[],0,sR,yF⟩ from rfl]
 simp only [cJ,eJ,gd,cL,aA,hb,bP,dW]
 cases hbb:aEn c (lD c.Kind)
 ·
  simp [gd]
 simp only [cJ,eJ,gd,cL,aA,bP,dW]
 cases kR c.Data
 ·
  simp
 simp only [cJ,bP,dW]
 have hop:(lD c.Kind).opts_=true∨rZ c.Opts=true:=by
  cases hu:(lD c.Kind).opts_
  ·
   refine .inr ?_
   unfold aEn at hbb
   rw [hu] at hbb
   simp only [aR,kL] at hbb
   rw [aFP hbb.2,aND]
  ·
   exact .inl rfl
 have hl:decide ((c.Name.length:Int)≤4096)=!oD c.Name:=by unfold oD;rw [eF];simp
 rw [hl]
 unfold aQQ
 clear hb hbb hin h hd ho hl
 obtain ⟨k,sq,nm,ky,n,d,o⟩:=c
 simp only at hop ⊢
 generalize inB sq 1 2000=b1
 generalize nL nm=b2
 generalize lJ ky=b3
 generalize rZ o=b4 at *
 generalize oD nm=b5
 generalize aB9 d=b6
 by_cases h1:k=1
 ·
  subst h1
  cases b1 <;> cases b2 <;> cases b4 <;> rfl
 by_cases h2:k=2
 ·
  subst h2
  obtain rfl:b4=true:=by simpa [lD] using hop
  cases b1 <;> rfl
 by_cases h3:k=3
 ·
  subst h3
  obtain rfl:b4=true:=by simpa [lD] using hop
  cases b1 <;> simp [lD]
 by_cases h4:k=4
 ·
  subst h4
  obtain rfl:b4=true:=by simpa [lD] using hop
  cases b1 <;> rfl
 by_cases h5:k=5
 ·
  subst h5
  obtain rfl:b4=true:=by simpa [lD] using hop
  cases b1 <;> cases b2 <;> cases b3 <;> simp [lD]
 by_cases h6:k=6
 ·
  subst h6
  obtain rfl:b4=true:=by simpa [lD] using hop
  cases b1 <;> cases b2 <;> cases b3 <;> rfl
 by_cases h7:k=7
 ·
  subst h7
  obtain rfl:b4=true:=by simpa [lD] using hop
  by_cases hn:n=-1
  ·
   cases b2 <;> simp [lD,hn]
  ·
   cases b2 <;> cases inB n 0 2147483647 <;> by_cases hk:d.Kind=0 <;> simp [lD,hn,hk]
 by_cases h8:k=8
 ·
  subst h8
  obtain rfl:b4=true:=by simpa [lD] using hop
  cases b2 <;> cases b3 <;> rfl
 by_cases h9:k=9
 ·
  subst h9
  obtain rfl:b4=true:=by simpa [lD] using hop
  cases b3 <;> simp [lD]
 by_cases h10:k=10
 ·
  subst h10
  obtain rfl:b4=true:=by simpa [lD] using hop
  simp [lD]
 by_cases h12:k=12
 ·
  subst h12
  obtain rfl:b4=true:=by simpa [lD] using hop
  simp [lD]
 by_cases h14:k=14
 ·
  subst h14
  obtain rfl:b4=true:=by simpa [lD] using hop
  simp [lD]
 ·
  have:b4=true:=by simpa [lD,h1,h2,h3,h4,h5,h6,h7,h8,h9,h10,h12,h14] using hop
  subst this
  simp [lD,h1,h2,h3,h4,h5,h6,h7,h8,h9,h10,h12,h14]
def aBG (s:List UInt8):List UInt8 × List UInt8 × Bool :=
 if Lib.indexByte s 47<0 then ([],[],false)
 else if 0≤Lib.indexByte (s.drop ((Lib.indexByte s 47).toNat+1)) 47 then ([],[],false)
 else (s.take (Lib.indexByte s 47).toNat,s.drop ((Lib.indexByte s 47).toNat+1),true)
theorem aJA (s:List UInt8) (c:UInt8):(Lib.indexByte s c=-1∧∀ k:Nat,s[k]?≠some c)∨∃ o:Nat,Lib.indexByte s c=(o:Int)∧s[o]?=some c∧(∀ k:Nat,k<o→s[k]?≠some c)∧o<s.length:=by
 by_cases h:Lib.indexByte s c=-1
 ·
  exact .inl ⟨h,Lib.indexByte_none h⟩
 ·
  have hg:=Lib.indexByte_ge s c
  obtain ⟨o,ho⟩:∃ o:Nat,Lib.indexByte s c=(o:Int):=⟨(Lib.indexByte s c).toNat,by omega⟩
  obtain ⟨h1,h2⟩:=Lib.indexByte_some ho
  exact .inr ⟨o,ho,h1,h2,(bR.1 h1).1⟩
theorem aEN (s:List UInt8):((∀ k:Nat,s[k]?≠some 47)∧aBG s=([],[],false))∨(∃ i j:Nat,i<j∧s[i]?=some 47∧s[j]?=some 47∧aBG s=([],[],false))∨∃ j:Nat,s[j]?=some 47∧(∀ k:Nat,k≠j→s[k]?≠some 47)∧j<s.length∧aBG s=(s.take j,s.drop (j+1),true):=by
 unfold aBG
 rcases aJA s 47 with ⟨h1,h2⟩ | ⟨o,h1,h2,h3,h4⟩
 ·
  exact .inl ⟨h2,by rw [bB (by omega)]⟩
 ·
  rw [aY (by omega),h1,kN]
  rcases aJA (s.drop (o+1)) 47 with ⟨k1,k2⟩ | ⟨p,k1,k2,k3,k4⟩
  ·
   refine .inr (.inr ⟨o,h2,fun k hk=>?_,h4,by rw [aY (by omega)]⟩)
   rcases Nat.lt_or_gt_of_ne hk with hk | hk
   ·
    exact h3 k hk
   ·
    have:=k2 (k - (o+1))
    rw [hO,show o+1+(k - (o+1))=k by omega] at this
    exact this
  ·
   rw [hO] at k2
   exact .inr (.inl ⟨o,o+1+p,by omega,h2,k2,by rw [bB (by omega)]⟩)
theorem aQ7 {s:List UInt8}{j:Nat} (h:s[j]?=some 47) (hu:∀ k:Nat,k≠j→s[k]?≠some 47):aBG s=(s.take j,s.drop (j+1),true):=by
 rcases aEN s with ⟨h1,_⟩ | ⟨i,k,hik,h1,h2,_⟩ | ⟨i,h1,h2,_,h3⟩
 ·
  exact absurd h (h1 j)
 ·
  by_cases e:i=j
  ·
   exact absurd h2 (hu k (by omega))
  ·
   exact absurd h1 (hu i e)
 ·
  have:i=j:=Decidable.byContradiction fun e=>hu i e h1
  rw [h3,this]
theorem aQ8 {s:List UInt8}{i j:Nat} (hij:i<j) (h:s[i]?=some 47) (h':s[j]?=some 47):aBG s=([],[],false):=by
 rcases aEN s with ⟨_,h2⟩ | ⟨_,_,_,_,_,h2⟩ | ⟨k,h1,h2,_,h3⟩
 ·
  exact h2
 ·
  exact h2
 ·
  by_cases e:i=k
  ·
   exact absurd h' (h2 j (by omega))
  ·
   exact absurd h (h2 i e)
theorem aPm {s:List UInt8} (h:∀ k:Nat,s[k]?≠some 47):aBG s=([],[],false):=by
 rcases aEN s with ⟨_,h2⟩ | ⟨_,_,_,_,_,h2⟩ | ⟨k,h1,_⟩
 ·
  exact h2
 ·
  exact h2
 ·
  exact absurd h1 (h k)
theorem aUz {s:List UInt8} (h:s.length≤140737488355328):aBv s [47]=some (if Lib.indexByte s 47<0 then (s,[],false) else (s.take (Lib.indexByte s 47).toNat,s.drop ((Lib.indexByte s 47).toNat+1),true)):=by
 unfold aBv zS xA
 simp only [aA]
 rcases aJA s 47 with ⟨h1,h2⟩ | ⟨o,h1,h2,h3,h4⟩
 ·
  rw [h1];rfl
 ·
  rw [h1,dO,bB (by omega),aY (by omega),aPX (by omega),aA]
  simp only [List.length_singleton]
  rw [w64 (by omega) (by omega),aJe (by omega),aA,aA,show ((o:Int)+((1:Nat):Int)).toNat=o+1 by omega,kN]
theorem aKI {s:List UInt8} (h:s.length≤140737488355328):aCc s=some (aBG s):=by
 unfold aCc yS aBG
 rw [aUz h,aA]
 by_cases h1:Lib.indexByte s 47<0
 ·
  rw [bB h1,bB h1]
  simp [gd]
 ·
  rw [aY h1,aY h1]
  by_cases h2:0≤Lib.indexByte (s.drop ((Lib.indexByte s 47).toNat+1)) 47
  ·
   rw [bB h2];simp [gd,h2]
  ·
   rw [aY h2];simp [gd,h2]
theorem aKT {s:List UInt8} (h:s.length≤140737488355328):∃ x,gL (aCg s) ((-1:Int),(0:Int))=some x∧((x=Fl.done ([],[],false)∧∃ i j:Nat,i<j∧s[i]?=some 47∧s[j]?=some 47)∨(x=Fl.go (-1)∧∀ k:Nat,s[k]?≠some 47)∨∃ j:Nat,x=Fl.go (j:Int)∧s[j]?=some 47∧(∀ k:Nat,k≠j→s[k]?≠some 47)∧j<s.length):=by
 refine yJ (fun t=>∃ i:Nat,t.2=(i:Int)∧i≤s.length∧((t.1=-1∧∀ k:Nat,k<i→s[k]?≠some 47)∨∃ j:Nat,t.1=(j:Int)∧j<i∧s[j]?=some 47∧∀ k:Nat,k<i→k≠j→s[k]?≠some 47)) (fun t=>s.length - t.2.toNat) _ ?_ _ ⟨0,rfl,by omega,.inl ⟨rfl,fun k hk=>absurd hk (Nat.not_lt_zero k)⟩⟩
 rintro ⟨x,i0⟩ ⟨i,hi0,hle,hx⟩
 simp only at hi0 hx
 subst hi0
 unfold aCg
 simp only
 by_cases hc:i<s.length
 ·
  rw [dO,bB (by omega),iJ hc,aA,nV hc (by omega)]
  have hg:s[i]?=some s[i]:=aM hc
  have h47:((s[i].toNat:Int)=47)↔s[i]=47:=by
   constructor
   ·
    intro e
    have:s[i].toNat=(47:UInt8).toNat:=by show s[i].toNat=47;omega
    exact UInt8.toNat_inj.1 this
   ·
    intro e;rw [e];rfl
  generalize s[i]=c at *
  by_cases hcc:c=47
  ·
   have e1:((c.toNat:Int)=47):=h47.2 hcc
   subst hcc
   rcases hx with ⟨rfl,hn⟩ | ⟨j,rfl,hj,hj1,hn⟩
   ·
    simp only [e1,cG,dM,show decide ((0:Int)≤-1)=false from rfl,bP,aA]
    refine .inl ⟨_,rfl,⟨i+1,rfl,hc,.inr ⟨i,rfl,by omega,hg,fun k hk hne=>hn k (by omega)⟩⟩,by simp;omega⟩
   ·
    have e2:decide ((0:Int)≤(j:Int))=true:=by simp
    simp only [e1,cG,dM,e2]
    exact .inr ⟨_,rfl,.inl ⟨rfl,j,i,hj,hj1,hg⟩⟩
  ·
   have e1:¬((c.toNat:Int)=47):=fun e=>hcc (h47.1 e)
   have hne:s[i]?≠some 47:=by rw [hg];simpa using hcc
   simp only [e1,dK,bP,aA]
   refine .inl ⟨_,rfl,⟨i+1,rfl,hc,?_⟩,by simp;omega⟩
   rcases hx with ⟨rfl,hn⟩ | ⟨j,rfl,hj,hj1,hn⟩
   ·
    refine .inl ⟨rfl,fun k hk=>?_⟩
    by_cases e:k=i
    ·
     rw [e];exact hne
    ·
     exact hn k (by omega)
   ·
    refine .inr ⟨j,rfl,by omega,hj1,fun k hk hkj=>?_⟩
    by_cases e:k=i
    ·
     rw [e];exact hne
    ·
     exact hn k (by omega) hkj
 ·
  rw [dO,aY (by omega)]
  have:i=s.length:=by omega
  subst this
  have hout:∀ k:Nat,¬k<s.length→s[k]?≠some 47:=fun k hk=>by rw [kP (by omega)];simp
  refine .inr ⟨_,rfl,.inr ?_⟩
  rcases hx with ⟨rfl,hn⟩ | ⟨j,rfl,hj,hj1,hn⟩
  ·
   refine .inl ⟨rfl,fun k=>?_⟩
   by_cases hk:k<s.length
   ·
    exact hn k hk
   ·
    exact hout k hk
  ·
   refine .inr ⟨j,rfl,hj1,fun k hkj=>?_,hj⟩
   by_cases hk:k<s.length
   ·
    exact hn k hk hkj
   ·
    exact hout k hk
theorem aNN {s:List UInt8} (h:s.length≤140737488355328):aEF s=some (aBG s):=by
 obtain ⟨x,hx,hc⟩:=aKT h
 unfold aEF
 rw [hx,aA]
 rcases hc with ⟨rfl,i,j,h1,h2,h3⟩ | ⟨rfl,h1⟩ | ⟨j,rfl,h1,h2,h3⟩
 ·
  rw [aQ8 h1 h2 h3];rfl
 ·
  rw [aPm h1];rfl
 ·
  rw [aQ7 h1 h2]
  simp only [Fl.next]
  rw [dO,aY (by omega),aPX (by omega),aA,w64 (by omega) (by omega),aJe (by omega),aA,kN,show ((j:Int)+1).toNat=j+1 by omega]
set_option maxRecDepth 100000
theorem aD9 (n:Nat):(∀ a0 m,n≤m→LeO (lI n a0) (lI m a0)):=by
 induction n with
 | zero=>exact fun _ _ _=>by intro r h;simp [lI] at h
 | succ n ih =>
  intro a0 m hm
  obtain ⟨m,rfl⟩:∃ k,m=k+1:=⟨m - 1,by omega⟩
  rw [lI,lI]
  repeat' with_reducible (first | exact ih _ _ (by omega) | refine aI2 ?_ (fun _=>?_) | refine aI3 ?_ ?_ | refine aPL ?_ | refine aI4 (fun _=>?_) | refine aGE (fun _=>?_) | exact aGF _)
theorem aHH {n:Nat}{p0n:Int}{r:(List UInt8)} (h:lI n p0n=some r):yP p0n=some r:=by
 unfold yP
 exact aSc (n:=n) h fun m hm=>(aD9 n) p0n m hm
theorem wW (qS zG:Int→Int→aX→Option (aK × Int × aX)) (x1:(Int × aX)) (aCf:Int) (yK:Int) (s10:(Int × Int × aX × (List aK) × (List (List UInt8)))) (hrec_value_decoder_value:∀ a0 a1 a2,LeO (zG a0 a1 a2) (qS a0 a1 a2)):LeO (iW zG x1 aCf yK s10) (iW qS x1 aCf yK s10):=by
 unfold iW
 repeat' with_reducible (first | exact hrec_value_decoder_value _ _ _ | refine aI2 ?_ (fun _=>?_) | refine aI3 ?_ ?_ | refine aPL ?_ | refine aI4 (fun _=>?_) | refine aGE (fun _=>?_) | exact aGF _)
theorem aBA (n:Nat):(∀ a0 a1 a2 a3 a4 a5 m,n≤m→LeO (kA n a0 a1 a2 a3 a4 a5) (kA m a0 a1 a2 a3 a4 a5))∧(∀ a0 a1 a2 m,n≤m→LeO (gS n a0 a1 a2) (gS m a0 a1 a2)):=by
 induction n with
 | zero=>exact ⟨fun _ _ _ _ _ _ _ _=>by intro r h;simp [kA] at h,fun _ _ _ _ _=>by intro r h;simp [gS] at h⟩
 | succ n ih =>
  refine ⟨?_,?_⟩
  ·
   intro a0 a1 a2 a3 a4 a5 m hm
   obtain ⟨m,rfl⟩:∃ k,m=k+1:=⟨m - 1,by omega⟩
   rw [kA,kA]
   repeat' with_reducible (first | exact ih.1 _ _ _ _ _ _ _ (by omega) | exact ih.2 _ _ _ _ (by omega) | refine wW _ _ _ _ _ _ (fun _ _ _=>?_) | refine aI2 ?_ (fun _=>?_) | refine aI3 ?_ ?_ | refine aPL ?_ | refine aI4 (fun _=>?_) | refine aGE (fun _=>?_) | exact aGF _)
  ·
   intro a0 a1 a2 m hm
   obtain ⟨m,rfl⟩:∃ k,m=k+1:=⟨m - 1,by omega⟩
   rw [gS,gS]
   repeat' with_reducible (first | exact ih.1 _ _ _ _ _ _ _ (by omega) | exact ih.2 _ _ _ _ (by omega) | refine wW _ _ _ _ _ _ (fun _ _ _=>?_) | refine aI2 ?_ (fun _=>?_) | refine aI3 ?_ ?_ | refine aPL ?_ | refine aI4 (fun _=>?_) | refine aGE (fun _=>?_) | exact aGF _)
theorem aDq {n:Nat}{tJ:Int}{jA:Int}{tI:aX}{r:(aK × Int × aX)} (h:gS n tJ jA tI=some r):uJ tJ jA tI=some r:=by
 unfold uJ
 exact aSc (n:=n) h fun m hm=>(aBA n).2 tJ jA tI m hm
theorem aHt {u:Nat} (h:u<10):Lib.decDigits u=[UInt8.ofNat (48+u)]:=by rw [Lib.decDigits];simp [h]
theorem aLW {u:Nat} (h:¬u<10):Lib.decDigits u=Lib.decDigits (u / 10)++[UInt8.ofNat (48+u % 10)]:=by rw [Lib.decDigits];simp [h]
theorem aE7:∀ (k u:Nat),u<10 ^ (k+1)→(Lib.decDigits u).length≤k+1
 | 0,u,h=>by rw [aHt (by omega)];simp
 | k+1,u,h=>by
  by_cases hu:u<10
  ·
   rw [aHt hu];simp
  ·
   rw [aLW hu]
   have:=aE7 k (u / 10) (by rw [oW] at h;omega)
   simp;omega
theorem aEu {s:List UInt8} (h:s.length≤140737488355328):aAh s=some (vI s):=by unfold aAh;rw [bB h]
theorem aOO:∀ (n u:Nat),u<10 ^ (n+1)→u≤9223372036854775808→n≤30→lI (n+1) (-(u:Int))=some (Lib.decDigits u):=by
 intro n
 induction n with
 | zero =>
  intro u h hb _
  have hu:u<10:=by omega
  rw [lI]
  have e1:IntKind.u8.wrap (IntKind.i64.wrap (48+IntKind.i64.wrap (0 - (-(u:Int)).tmod 10)))=((48+u:Nat):Int):=by
   have:(-(u:Int)).tmod 10=-(u:Int):=by rw [Int.neg_tmod,lK (by omega)];omega
   rw [this,IntKind.wrap_u8,IntKind.wrap_i64,IntKind.wrap_i64];omega
  rw [e1,aGu (by omega),aA,dO,bB (by omega),aHt hu]
 | succ n ih =>
  intro u h hb hn
  rw [lI]
  have e1:IntKind.u8.wrap (IntKind.i64.wrap (48+IntKind.i64.wrap (0 - (-(u:Int)).tmod 10)))=((48+u % 10:Nat):Int):=by
   have:(-(u:Int)).tmod 10=-((u % 10:Nat):Int):=by rw [Int.neg_tmod,lK (by omega)];omega
   rw [this,IntKind.wrap_u8,IntKind.wrap_i64,IntKind.wrap_i64];omega
  rw [e1,aGu (by omega),aA,dO]
  by_cases hu:u<10
  ·
   rw [bB (by omega),aHt hu,Nat.mod_eq_of_lt hu]
  ·
   rw [aY (by omega)]
   have e2:IntKind.i64.wrap ((-(u:Int)).tdiv 10)=-((u / 10:Nat):Int):=by
    have:(-(u:Int)).tdiv 10=-((u / 10:Nat):Int):=by rw [Int.neg_tdiv,pY (by omega)];omega
    rw [this,w64 (by omega) (by omega)]
   have hl:=aE7 n (u / 10) (by rw [oW] at h;omega)
   rw [e2,ih (u / 10) (by rw [oW] at h;omega) (by omega) (by omega),aA,aRD (by simp;omega),aA,aLW hu]
theorem aQE {u:Nat} (h:u≤9223372036854775808):yP (-(u:Int))=some (Lib.decDigits u):=aHH (aOO 19 u (by omega) h (by omega))
theorem aIm {n:Int} (h:uQ n):aDj n=some (aEa n):=by
 unfold aDj aEa
 rw [dO]
 by_cases h1:n<1
 ·
  rw [bB h1,bB h1]
 ·
  rw [aY h1,aY h1]
  obtain ⟨h2,h3⟩:=h
  unfold aBc
  obtain ⟨u,rfl⟩:∃ u:Nat,n=(u:Int):=⟨n.toNat,by omega⟩
  rw [dO,aY (by omega),show (0:Int) - (u:Int)=-(u:Int) by omega,w64 (by omega) (by omega),aQE (by omega),aA,aA]
  have hl:=aE7 18 u (by omega)
  rw [aRD (by simp;omega),aA,Lib.itoa_nonneg];rfl
def rdS (a:Nat) (c:UInt8):Nat:=10*a+(c.toNat - 48)
def rd (a:Nat) (l:List UInt8):Nat:=l.foldl rdS a
theorem aGQ (c:UInt8) (l:List UInt8) (a:Nat):rd a (c :: l)=rd (rdS a c) l:=pH ..
theorem aHE (a:Nat):rd a []=a:=List.foldl_nil ..
theorem aHD (l m:List UInt8) (a:Nat):rd a (l++m)=rd (rd a l) m:=List.foldl_append ..
theorem aUZ (a:Nat) (c:UInt8):a≤rdS a c:=by unfold rdS;omega
theorem aSx:∀ (l:List UInt8) (a:Nat),a≤rd a l
 | [],a=>by rw [aHE];exact eP a
 | c :: l,a=>by rw [aGQ];exact hG (aUZ a c) (aSx l (rdS a c))
def dig (c:UInt8):Prop:=48≤c.toNat∧c.toNat≤57
theorem aRL {u:Nat} (h:u<10):dig (UInt8.ofNat (48+u))∧(UInt8.ofNat (48+u)).toNat - 48=u:=by
 have:(UInt8.ofNat (48+u)).toNat=48+u:=by simp;omega
 unfold dig;omega
theorem aO9:∀ u,rd 0 (Lib.decDigits u)=u∧∀ c∈Lib.decDigits u,dig c:=by
 intro u
 induction u using Nat.strongRecOn with
 | _ u ih =>
  by_cases h:u<10
  ·
   obtain ⟨h1,h2⟩:=aRL h
   rw [aHt h,aGQ,aHE]
   refine ⟨?_,by simp only [List.mem_singleton];rintro c rfl;exact h1⟩
   unfold rdS
   omega
  ·
   obtain ⟨h1,h2⟩:=aRL (u:=u % 10) (by omega)
   obtain ⟨i1,i2⟩:=ih (u / 10) (by omega)
   rw [aLW h,aHD,i1,aGQ,aHE]
   refine ⟨?_,?_⟩
   ·
    unfold rdS
    omega
   ·
    intro c hc
    rcases gV.1 hc with hc | hc
    ·
     exact i2 c hc
    ·
     rw [List.mem_singleton.1 hc];exact h1
theorem aUA (u:Nat):Lib.decDigits u≠[]:=by
 by_cases h:u<10
 ·
  rw [aHt h];simp
 ·
  rw [aLW h];simp
theorem aSl:∀ (l:List UInt8) (a:Nat),(∀ c∈l,dig c)→rd a l<18446744073709551616→Lib.parseUint10 a l=.ok (rd a l):=by
 intro l
 induction l with
 | nil=>intro a _ _;rw [aHE,Lib.parseUint10]
 | cons c l ih =>
  intro a hd hr
  have hc:=hd c (by simp)
  have hge:=aSx l (rdS a c)
  rw [aGQ] at hr ⊢
  unfold dig at hc
  have hs:rdS a c=10*a+(c.toNat - 48):=rfl
  rw [Lib.parseUint10,bB hc,aY (by omega),oV a 10,aY (by omega),← hs]
  exact ih _ (fun x hx=>hd x (by simp [hx])) hr
theorem aRz {u:Nat} (h:u≤9223372036854775807):Lib.atoiAll (Lib.decDigits u)=.ok (u:Int):=by
 obtain ⟨h1,h2⟩:=aO9 u
 have hp:=aSl (Lib.decDigits u) 0 h2 (by omega)
 rw [h1] at hp
 have hne:=aUA u
 generalize Lib.decDigits u=l at *
 cases l with
 | nil=>exact absurd rfl hne
 | cons c r =>
  have hc:=h2 c (by simp)
  unfold dig at hc
  unfold Lib.atoiAll
  simp only
  rw [aY (by omega)]
  unfold Lib.parseMag
  rw [aY (by simp),hp]
  simp only
  rw [aY (by omega),aY (by omega),aY (by omega)]
theorem aG0 {v:Int} (h:1≤v):aEa v=114 :: Lib.decDigits v.toNat:=by
 unfold aEa
 rw [aY (by omega)]
 obtain ⟨u,rfl⟩:∃ u:Nat,v=(u:Int):=⟨v.toNat,by omega⟩
 rw [Lib.itoa_nonneg];rfl
theorem aNx {v:Int} (h1:1≤v) (h2:v≤9223372036854775807):vI (aEa v)=(v,true):=by
 unfold vI
 have hr:=aG0 h1
 have hp:Lib.hasPrefix (aEa v) [114]=true:=by rw [hr];simp [Lib.hasPrefix]
 have ht:Lib.trimPrefix (aEa v) [114]=Lib.decDigits v.toNat:=by unfold Lib.trimPrefix;rw [bB hp,hr];rfl
 rw [bB hp,ht,aRz (by omega)]
 simp only
 rw [show ((v.toNat:Nat):Int)=v by omega,bB ⟨rfl,h1⟩]
theorem aEw (s:List UInt8):(∃ v:Int,1≤v∧v≤9223372036854775807∧aEa v=s∧vI s=(v,true))∨((∀ v:Int,1≤v→v≤9223372036854775807→aEa v≠s)∧vI s=(0,false)):=by
 by_cases h:∃ v:Int,1≤v∧v≤9223372036854775807∧aEa v=s
 ·
  obtain ⟨v,h1,h2,rfl⟩:=h
  exact .inl ⟨v,h1,h2,rfl,aNx h1 h2⟩
 ·
  refine .inr ⟨fun v h1 h2 h3=>h ⟨v,h1,h2,h3⟩,?_⟩
  unfold vI
  split
  ·
   split
   ·
    rename_i v hv
    have hb:=aMT hv
    rw [aY fun hh=>h ⟨v,hh.2,hb.2,hh.1⟩]
   ·
    rfl
  ·
   rfl
theorem aVl {x:Int} (h1:-9223372036854775808≤x) (h2:x≤9223372036854775807):(x+9223372036854775808) % 18446744073709551616 - 9223372036854775808=x:=by omega
theorem aVm {x:Int} (h1:-9223372036854775808≤x - 48) (h2:x - 48≤9223372036854775807):((x+9223372036854775808) % 18446744073709551616 - 9223372036854775808 - 48+9223372036854775808) % 18446744073709551616 - 9223372036854775808=x - 48:=by omega
theorem aSy (c:UInt8) (l:List UInt8):rd 0 (((c :: l).take 1).drop 1)=0:=by
 rw [mR,List.take_zero,List.drop_succ_cons,oG,aHE]
theorem aRN (c:UInt8) (l:List UInt8):(c :: l).drop 1=l:=by rw [List.drop_succ_cons,oG]
theorem aJ4 {s:List UInt8} (h:s.length≤140737488355328):∃ x,gL (zN s) ((0:Int),(1:Int))=some x∧uQ x∧∀ u:Nat,1≤u→u≤9223372036854775807→s=114 :: Lib.decDigits u→x=(u:Int):=by
 refine yJ (fun t=>∃ i:Nat,t.2=(i:Int)∧1≤i∧uQ t.1∧∀ u:Nat,1≤u→u≤9223372036854775807→s=114 :: Lib.decDigits u→i≤s.length∧t.1=(rd 0 ((s.take i).drop 1):Int)) (fun t=>s.length - t.2.toNat) _ ?_ _ ⟨1,rfl,by omega,by simp [uQ],fun u _ _ hs=>⟨by rw [hs,fB];omega,by rw [hs,aSy];rfl⟩⟩
 rintro ⟨x,i0⟩ ⟨i,hi0,h1,hx,hu⟩
 simp only at hi0 hx hu
 subst hi0
 unfold zN
 by_cases hc:i<s.length∧s.length≤20
 ·
  have e:(cond (decide ((i:Int)<(s.length:Int))) (decide ((s.length:Int)≤20)) false)=true:=by
   have a1:(i:Int)<s.length:=by omega
   have a2:(s.length:Int)≤20:=by omega
   simp [a1,a2]
  simp only
  rw [e,dM,iJ hc.1,aA,nV hc.1 (by omega)]
  refine .inl ⟨_,rfl,⟨i+1,rfl,by omega,?_,fun u hu1 hu2 hs=>⟨hc.1,?_⟩⟩,by simp;omega⟩
  ·
   simp only [uQ,IntKind.wrap_i64];omega
  ·
   obtain ⟨hi,hxe⟩:=hu u hu1 hu2 hs
   simp only
   have hr:=aO9 u
   have hsplit:(s.take (i+1)).drop 1=(s.take i).drop 1++[s[i]]:=by
    rw [fF hc.1,kO (by simp;omega)]
   have hd:dig s[i]:=by
    refine hr.2 _ ?_
    have:s.drop 1=Lib.decDigits u:=by rw [hs,aRN]
    rw [← this]
    have:s[i]=(s.drop 1)[i - 1]'(by simp;omega):=by simp only [List.getElem_drop];congr 1;omega
    rw [this];exact bN _
   have hle:rd 0 ((s.take (i+1)).drop 1)≤u:=by
    have h2:s.drop 1=(s.take (i+1)).drop 1++s.drop (i+1):=by
     conv=>lhs;rw [← pQ (i+1) s,kO (by simp;omega)]
    have h3:rd 0 (s.drop 1)=u:=by rw [hs,aRN];exact hr.1
    rw [h2,aHD] at h3
    have:=aSx (s.drop (i+1)) (rd 0 ((s.take (i+1)).drop 1))
    omega
   rw [hsplit,aHD] at hle ⊢
   rw [aGQ,aHE] at hle ⊢
   unfold dig at hd
   have hs:rdS (rd 0 ((s.take i).drop 1)) s[i]=10*rd 0 ((s.take i).drop 1)+(s[i].toNat - 48):=rfl
   rw [hs] at hle ⊢
   rw [hxe]
   generalize rd 0 ((s.take i).drop 1)=R at *
   generalize s[i]=c at *
   clear hs hsplit
   simp only [IntKind.wrap_i64]
   generalize c.toNat=d at *
   rw [aVl (x:=10*(R:Int)) (by omega) (by omega),aVl (x:=(d:Int)) (by omega) (by omega),aVm (x:=10*(R:Int)+(d:Int)) (by omega) (by omega)]
   omega
 ·
  have e:(cond (decide ((i:Int)<(s.length:Int))) (decide ((s.length:Int)≤20)) false)=false:=by
   by_cases a1:(i:Int)<s.length
   ·
    have a2:¬(s.length:Int)≤20:=by omega
    simp [a1,a2]
   ·
    simp [a1]
  simp only
  rw [e,bP]
  refine .inr ⟨x,rfl,hx,fun u hu1 hu2 hs=>?_⟩
  obtain ⟨hi,hxe⟩:=hu u hu1 hu2 hs
  have hl:=aE7 18 u (by omega)
  have hsl:s.length=(Lib.decDigits u).length+1:=by rw [hs,fB]
  have:i=s.length:=by omega
  rw [hxe,this,kY]
  have h3:s.drop 1=Lib.decDigits u:=by rw [hs,aRN]
  rw [h3,(aO9 u).1]
theorem aGS {s:List UInt8} (h:s.length≤140737488355328):yQ s=some (vI s):=by
 obtain ⟨x,hx,hok,hu⟩:=aJ4 h
 unfold yQ
 rw [hx,aA]
 rcases aEw s with ⟨v,h1,h2,h3,h4⟩ | ⟨h3,h4⟩
 ·
  have hxv:x=v:=by
   have:=hu v.toNat (by omega) (by omega) (by rw [← h3,aG0 h1])
   omega
  subst hxv
  rw [aIm hok,h4,h3]
  have:¬x<1:=by omega
  simp [this,gd]
 ·
  rw [aIm hok,h4]
  by_cases h5:x<1
  ·
   simp [h5,gd]
  ·
   have:=h3 x (by omega) hok.2
   simp [h5,gd,this]
theorem gdS {c b:Bool}:gd c (some b)=some (if c=true then b else default):=by unfold gd;split <;> rfl
theorem cA (a b:Bool):cond a (if (a==true)=true then b else default) false=(a&&b):=by cases a <;> rfl
theorem cO (a b:Bool):cond a true (if (a==false)=true then b else default)=(a||b):=by cases a <;> rfl
theorem cF (a b:Bool):cond a b false=(a&&b):=by cases a <;> rfl
theorem cT (a b:Bool):cond a true b=(a||b):=by cases a <;> rfl
theorem zI {n l h:Int}:nU n l h=some (inB n l h):=by unfold nU inB;rw [cF]
theorem aJ1 {n l h:Int}:sA n l h=some (inB n l h):=by unfold sA inB;rw [cF]
theorem aA4 {s:List UInt8} (hs:s.length≤9223372036854775807):tX s=some (lJ s):=(show tX s=tU s from rfl).trans (aJB hs)
def aDN (s:List UInt8):Bool:=decide (s=[])||(vI s).2
theorem aCn {s:List UInt8} (hs:s.length≤140737488355328):xY s=some (aDN s):=by
 unfold xY aDN
 rw [aEu hs,aA,cT]
theorem aEH {s:List UInt8} (hs:s.length≤140737488355328):aA2 s=some (aDN s):=by
 unfold aA2 aDN
 rw [aGS hs,aA,cT]
def aKK (s:List UInt8):Bool:=decide (s=[])||((aBG s).2.2&&decide ((s.length:Int)≤4096))
theorem aGY {s:List UInt8} (hs:s.length≤140737488355328):xX s=some (aKK s):=by
 unfold xX aKK
 rw [aKI hs,aA,cT,cF]
def vE (k:Int):iK :=
 if k=1 then ⟨true,true,false,false,true,true,true,false,true⟩
 else if k=2 then ⟨true,true,false,false,false,false,true,false,false⟩
 else if k=5 then ⟨true,true,false,false,false,false,true,false,false⟩
 else if k=3 then ⟨true,false,false,false,false,false,false,false,false⟩
 else if k=4 then ⟨false,true,false,false,false,false,false,false,false⟩
 else if k=6 then ⟨false,false,false,true,false,false,false,false,false⟩
 else if k=7 then ⟨false,false,true,false,false,false,true,true,false⟩
 else if k=8 then ⟨false,false,true,false,false,true,false,false,false⟩
 else if k=9 then ⟨false,false,false,false,true,true,false,false,false⟩
 else if k=10 then ⟨false,false,true,false,true,false,true,false,false⟩
 else if k=12 then ⟨false,false,true,false,true,false,true,false,false⟩
 else if k=13 then ⟨false,false,true,false,true,false,true,false,false⟩
 else if k=11 then ⟨false,true,true,false,true,false,true,false,false⟩
 else if k=15 then ⟨true,true,false,false,true,true,true,false,false⟩
 else if k=16 then ⟨false,true,false,false,true,true,false,false,false⟩
 else if k=17 then ⟨false,false,false,false,false,true,false,false,false⟩
 else ⟨false,false,false,false,false,false,false,false,false⟩
theorem aGW (k:Int):xV k=some (vE k):=by
 unfold xV vE
 by_cases h1:k=1
 ·
  simp [h1]
 by_cases h2:k=2
 ·
  simp [h2]
 by_cases h5:k=5
 ·
  simp [h5]
 by_cases h3:k=3
 ·
  simp [h3]
 by_cases h4:k=4
 ·
  simp [h4]
 by_cases h6:k=6
 ·
  simp [h6]
 by_cases h7:k=7
 ·
  simp [h7]
 by_cases h8:k=8
 ·
  simp [h8]
 by_cases h9:k=9
 ·
  simp [h9]
 by_cases h10:k=10
 ·
  simp [h10]
 by_cases h12:k=12
 ·
  simp [h12]
 by_cases h13:k=13
 ·
  simp [h13]
 by_cases h11:k=11
 ·
  simp [h11]
 by_cases h15:k=15
 ·
  simp [h15]
 by_cases h16:k=16
 ·
  simp [h16]
 by_cases h17:k=17
 ·
  simp [h17]
 simp [h1,h2,h3,h4,h5,h6,h7,h8,h9,h10,h11,h12,h13,h15,h16,h17]
def aBC (q:cW) (u:iK):Bool :=
 (u.id_||decide (q.ID=[]))&&(u.name_||decide (q.Name=[]))&&(u.token_||decide (q.Token=0))&&(u.event_||decide (q.Event=0))&&(u.seq_||decide (q.Seq=0))&&(u.n_||decide (q.N=0))&&(u.data_||rT q.Data sR)&&(u.commands_||decide ((q.Commands.length:Int)=0))&&(u.parent_||decide (q.Parent=[]))&&aBr q.Opts yF
theorem aIH {q:cW}{u:iK} (h:nQ q):aAG q u=some (aBC q u):=by
 unfold aAG aBC
 have hd:dX q.Data:=h.2.2.2.2.2.2.2.2.2.2.1
 have ho:iL q.Opts:=h.2.2.2.2.2.2.2.2.2.2.2.1
 rw [show (aK.mk 0 0 [] [] [])=sR from rfl,show (dR.mk [] 0 0 0 0 0 0 0 0 [])=yF from rfl,aC7 hd,aCX ho]
 simp only [gdS,aA,cA,cT,cF]
 have e:∀ a b p c:Bool,(a&&(b||if (a==true&&b==false)=true then p else default)&&c)=(a&&(b||p)&&c):=fun a b p c=>by cases a <;> cases b <;> rfl
 generalize (u.id_||decide (q.ID=[]))=b1
 generalize (u.name_||decide (q.Name=[]))=b2
 generalize (u.token_||decide (q.Token=0))=b3
 generalize (u.event_||decide (q.Event=0))=b4
 generalize (u.seq_||decide (q.Seq=0))=b5
 generalize (u.n_||decide (q.N=0))=b6
 generalize rT q.Data sR=b7
 generalize (u.commands_||decide ((q.Commands.length:Int)=0))=b8
 generalize (u.parent_||decide (q.Parent=[]))=b9
 generalize aBr q.Opts yF=b10
 generalize (b1&&b2&&b3&&b4&&b5&&b6)=a
 cases a <;> cases u.data_ <;> simp
def aNE (k n:Int):Bool :=
 if k=1 then inB n 0 2 else if k=8 then inB n 1 30 else if k=9 then inB n 1 1000 else if k=15 then (decide (n=20)||decide (n=21)||decide (n=22)) else if k=16 then (decide (n=24)||decide (n=25)) else if k=17 then decide (1≤n) else true
theorem aGX (q:cW):xW q=some (aNE q.Kind q.N):=by
 unfold xW aNE
 simp only [zI,aA,cT]
 simp only [dO]
 split
 ·
  rfl
 split
 ·
  rfl
 split
 ·
  rfl
 split
 ·
  rfl
 split
 ·
  rfl
 split <;> rfl
def aDJ (q:cW) (u:iK):Bool :=
 if q.Kind=15 then (aDN q.ID&&decide ((q.Name.length:Int)≤4096)) else if q.Kind=16 then decide ((q.Name.length:Int)≤4096) else if q.Kind=4 then decide ((q.Name.length:Int)≤64) else if q.Kind=11 then lJ q.Name else ((!u.id_||lJ q.ID)&&(!u.name_||nL q.Name))
theorem aHI {q:cW}{u:iK} (h:nQ q):zJ q u=some (aDJ q u):=by
 have h1:q.ID.length≤140737488355328:=hG h.2.2.2.2.1 (by decide)
 have h2:q.Name.length≤140737488355328:=hG h.2.2.2.2.2.1 (by decide)
 unfold zJ aDJ
 rw [aCn h1,aA4 (by omega),aA4 (by omega),wJ]
 simp only [gdS,aA,cA,cT,cF,cO]
 simp only [dO]
 split
 ·
  rfl
 split
 ·
  rfl
 split
 ·
  rfl
 split
 ·
  rfl
 ·
  generalize u.id_=a
  generalize u.name_=b
  cases a <;> cases b <;> cases lJ q.ID <;> rfl
theorem aPl {l:List cK} (h:aEy 240 mC l):fV l=some (l.any fun c=>!mE c):=by
 unfold fV iF
 obtain ⟨x,h1,h2⟩:=aAY (body:=fW l) l (fun c=>!mE c) (fun i hi=>by
  unfold fW zR
  rw [dO,bB (by omega),iJ hi,aA,yG (h.2.2 _ (bN hi)),aA,aA,nV hi h.1]
  cases mE l[i] <;> rfl) (by
  unfold fW
  rw [dO,aY (by omega)])
 rw [h1,aA,h2]
noncomputable def zZ (q:cW):Bool :=
 inB q.Kind 1 17&&(inB q.Time 0 1099511627776&&(aBC q (vE q.Kind)&&(kR q.Data &&
  ((if q.Kind=14 then decide (q.Workflow=[]) else lJ q.Workflow)&&(aDN q.Run&&((if q.Kind=14∨q.Kind=1 then decide (q.Run=[]) else true) &&
   ((!(vE q.Kind).token_||decide (1≤q.Token))&&((!(vE q.Kind).event_||inB q.Event 1 2000)&&((!(vE q.Kind).seq_||inB q.Seq (if q.Kind=1 then 0 else 1) 2000)&&(aKK q.Parent &&
    (decide (q.Commands.length≤200)&&(q.Commands.all mE&&(aNE q.Kind q.N&&aDJ q (vE q.Kind))))))))))))))
theorem aA3 {q:cW} (h:nQ q):wM q=some (zZ q):=by
 have hd:dX q.Data:=h.2.2.2.2.2.2.2.2.2.2.1
 have hw:q.Workflow.length≤140737488355328:=hG h.2.2.1 (by decide)
 have hr:q.Run.length≤140737488355328:=hG h.2.2.2.1 (by decide)
 have hp:q.Parent.length≤140737488355328:=hG h.2.2.2.2.2.2.2.2.2.2.2.2.2 (by decide)
 have hc:=h.2.2.2.2.2.2.2.2.2.2.2.2.1
 unfold wM zZ
 rw [aGW,aA]
 simp only [zI,aIH h,aAM hd,aA4 (show q.Workflow.length≤9223372036854775807 by omega),aCn hr,aGY hp,aPl hc,aGX,aHI h,aA,gdS]
 generalize vE q.Kind=u
 generalize aBC q u=b3
 cases inB q.Kind 1 17
 ·
  simp
 cases inB q.Time 0 1099511627776
 ·
  simp
 cases b3
 ·
  simp
 cases kR q.Data
 ·
  simp
 simp only [cJ,bP,dW,eJ,cL,dM,mQ]
 generalize aDJ q u=b9
 generalize aNE q.Kind q.N=b8
 generalize aKK q.Parent=b7
 generalize aDN q.Run=b6
 have e1:(q.Commands.any fun c=>!mE c)=!q.Commands.all mE:=by rw [eF];simp
 rw [e1]
 generalize q.Commands.all mE=c2
 have e2:decide ((200:Int)<(q.Commands.length:Int))=!decide (q.Commands.length≤200):=by rw [eF];simp;omega
 rw [e2]
 generalize decide (q.Commands.length≤200)=c1
 have e3:decide (q.Token<1)=!decide (1≤q.Token):=by rw [eF];simp
 rw [e3]
 generalize decide (1≤q.Token)=c3
 generalize inB q.Event 1 2000=c4
 generalize u.token_=u3
 generalize u.event_=u4
 generalize u.seq_=u5
 have tail:∀ c5:Bool,(cond (cond (cond (cond (cond u3 (!c3) false) true (cond u4 (!(if ((cond u3 (!c3) false)==false&&u4==true)=true then c4 else default)) false)) true (cond u5 (!(if ((cond (cond u3 (!c3) false) true (cond u4 (!(if ((cond u3 (!c3) false)==false&&u4==true)=true then c4 else default)) false))==false&&u5==true)=true then c5 else default)) false)) true
   (!(if ((cond (cond (cond u3 (!c3) false) true (cond u4 (!(if ((cond u3 (!c3) false)==false&&u4==true)=true then c4 else default)) false)) true (cond u5 (!(if ((cond (cond u3 (!c3) false) true (cond u4 (!(if ((cond u3 (!c3) false)==false&&u4==true)=true then c4 else default)) false))==false&&u5==true)=true then c5 else default)) false))==false)=true then b7 else default)))
   (some false) (cond (cond (!c1) true (if ((!c1)==false)=true then (!c2) else default)) (some false) (some (cond b8 (if (b8==true)=true then b9 else default) false))))=some ((!u3||c3)&&((!u4||c4)&&((!u5||c5)&&(b7&&(c1&&(c2&&(b8&&b9))))))):=by
  intro c5
  cases u3 <;> cases c3 <;> cases u4 <;> cases c4 <;> cases u5 <;> cases c5 <;> cases b7 <;> cases c1 <;> cases c2 <;> cases b8 <;> cases b9 <;> rfl
 by_cases h14:q.Kind=14
 ·
  have h1:¬q.Kind=1:=by omega
  simp only [h14,Int.reduceEq,cG,dK,cL,dZ,true_or,aA,dM,bP,cJ]
  by_cases hW:q.Workflow=[]
  ·
   by_cases hR:q.Run=[]
   ·
    cases b6
    ·
     simp [hW,hR]
    ·
     simp only [hW,hR,cG,cJ,eJ,cL,bP,dM,dW]
     exact tail _
   ·
    cases b6 <;> simp [hW,hR]
  ·
   simp [hW]
 ·
  simp only [h14,dK,dZ,false_or,aA,dM,bP,iT,eJ,mQ,cL]
  cases lJ q.Workflow
  ·
   simp
  by_cases h1:q.Kind=1
  ·
   simp only [h1,cG,cL,dM,aA]
   by_cases hR:q.Run=[]
   ·
    cases b6
    ·
     simp [hR]
    ·
     simp only [hR,cG,cJ,eJ,cL,bP,dM,dW]
     exact tail _
   ·
    cases b6 <;> simp [hR]
  ·
   simp only [h1,dK,dZ,bP,aA]
   cases b6
   ·
    simp
   ·
    simp only [cJ,eJ,cL,bP,dM,dW]
    exact tail _
theorem cS (c x:Bool):cond c (some false) (some x)=some (!c&&x):=by cases c <;> rfl
theorem aHK {a:List cK}:nT a []=some (decide ((a.length:Int)=0)):=by
 unfold nT
 by_cases h:a=[]
 ·
  subst h
  rw [aNq (r:=.go ()) (by unfold pF;rfl)]
  rfl
 ·
  have:¬(a.length:Int)=0:=fun hh=>h (eM (by omega))
  simp [this,h]
theorem aG2 {a:List cK} (h:aEy 240 mC a):nT a a=some true:=by
 unfold nT
 rw [oJ rfl,cJ,bP,nZ a.length (fun _=>true) false (fun i hi=>?_) ?_]
 ·
  simp [Fl.next]
 ·
  unfold pF
  rw [dO,aY (by omega)]
 ·
  unfold pF
  have hc:=h.2.2 _ (bN hi)
  rw [dO,bB (by omega),iJ hi,aA,aA,aGU hc.2.2.2.2.2.1 hc.2.2.2.2.2.2,nV hi h.1]
  simp [aA6,aDI]
theorem aJ0 {q:cW} (h:nQ q):vN q q=some true:=by
 have hd:dX q.Data:=h.2.2.2.2.2.2.2.2.2.2.1
 have ho:iL q.Opts:=h.2.2.2.2.2.2.2.2.2.2.2.1
 have hc:=h.2.2.2.2.2.2.2.2.2.2.2.2.1
 unfold vN
 rw [aCm hd,uU ho,aG2 hc,aA6,aDI]
 simp [gd]
theorem aQ2 {a:cW}{k:Int} (hd:dX a.Data) (ho:iL a.Opts):vN a ⟨k,0,[],[],[],[],0,0,0,0,sR,yF,[],[]⟩=some (decide (a.Kind=k)&&(decide (a.Time=0)&&(decide (a.Workflow=[])&&(decide (a.Run=[])&&(decide (a.ID=[])&&(decide (a.Name=[])&&(decide (a.Parent=[]) &&
  (decide (a.Token=0)&&(decide (a.Event=0)&&(decide (a.Seq=0)&&(decide (a.N=0)&&(rT a.Data sR&&(aBr a.Opts yF&&decide ((a.Commands.length:Int)=0)))))))))))))):=by
 unfold vN
 simp only
 rw [aCm hd,uU ho,aHK]
 simp only [gdS,aA,cA,cT,cF,cS,Bool.not_or,Bool.not_not,tF]
 have e:∀ x y z:Bool,(x&&((if (x==true)=true then y else default)&&(if ((x&&if (x==true)=true then y else default)==true)=true then z else default)))=(x&&(y&&z)):=fun x y z=>by cases x <;> cases y <;> cases z <;> rfl
 rw [e]
def aLh (q:cW):cW :=
 ⟨q.Kind,0,if q.Kind=14 then q.Workflow else [],if q.Kind=14∨q.Kind=1 then q.Run else [],if (vE q.Kind).id_ then [] else q.ID,if (vE q.Kind).name_ then [] else q.Name,if (vE q.Kind).token_ then 0 else q.Token,if (vE q.Kind).event_ then 0 else q.Event,
  if (vE q.Kind).seq_ then 0 else q.Seq,if (vE q.Kind).n_ then 0 else q.N,if (vE q.Kind).data_ then sR else q.Data,q.Opts,if (vE q.Kind).commands_ then [] else q.Commands,if (vE q.Kind).parent_ then [] else q.Parent⟩
theorem aMb (q:cW):aFT q=some (aLh q):=by
 unfold aFT aLh vE
 obtain ⟨k,tm,wf,rn,id,nm,tk,ev,sq,n,d,o,cs,pr⟩:=q
 simp only
 by_cases h1:k=1
 ·
  subst h1;rfl
 by_cases h2:k=2
 ·
  subst h2;rfl
 by_cases h5:k=5
 ·
  subst h5;rfl
 by_cases h3:k=3
 ·
  subst h3;rfl
 by_cases h4:k=4
 ·
  subst h4;rfl
 by_cases h6:k=6
 ·
  subst h6;rfl
 by_cases h7:k=7
 ·
  subst h7;rfl
 by_cases h8:k=8
 ·
  subst h8;rfl
 by_cases h9:k=9
 ·
  subst h9;rfl
 by_cases h10:k=10
 ·
  subst h10;rfl
 by_cases h12:k=12
 ·
  subst h12;rfl
 by_cases h13:k=13
 ·
  subst h13;rfl
 by_cases h11:k=11
 ·
  subst h11;rfl
 by_cases h14:k=14
 ·
  subst h14;rfl
 by_cases h15:k=15
 ·
  subst h15;rfl
 by_cases h16:k=16
 ·
  subst h16;rfl
 by_cases h17:k=17
 ·
  subst h17;rfl
 simp [h1,h2,h3,h4,h5,h6,h7,h8,h9,h10,h11,h12,h13,h14,h15,h16,h17,Fl.next]
theorem dI {α:Type} [DecidableEq α] {u:Bool}{x z:α}:decide ((if u=true then z else x)=z)=(u||decide (x=z)):=by cases u <;> simp
theorem dV {u:Bool}{x:aK}:rT (if u=true then sR else x) sR=(u||rT x sR):=by cases u <;> simp [aA6]
theorem dC {u:Bool}{x:List cK}:decide (((if u=true then [] else x).length:Int)=0)=(u||decide ((x.length:Int)=0)):=by cases u <;> simp
theorem aQy {q:cW} (h:nQ q):vN (aLh q) ⟨q.Kind,0,[],[],[],[],0,0,0,0,sR,yF,[],[]⟩=some (aBC q (vE q.Kind)&&((if q.Kind=14 then decide (q.Workflow=[]) else true)&&(if q.Kind=14∨q.Kind=1 then decide (q.Run=[]) else true))):=by
 have hd:dX q.Data:=h.2.2.2.2.2.2.2.2.2.2.1
 have ho:iL q.Opts:=h.2.2.2.2.2.2.2.2.2.2.2.1
 rw [aQ2 (a:=aLh q) (by unfold aLh;simp only;split;exact aNy;exact hd) ho]
 unfold aLh aBC
 simp only [dI,dV,dC,cG,dW]
 have e1:decide ((if q.Kind=14 then q.Workflow else [])=[])=(if q.Kind=14 then decide (q.Workflow=[]) else true):=by split <;> simp
 have e2:decide ((if q.Kind=14∨q.Kind=1 then q.Run else [])=[])=(if q.Kind=14∨q.Kind=1 then decide (q.Run=[]) else true):=by split <;> simp
 rw [e1,e2]
 congr 1
 ac_rfl
theorem aFN {α τ:Type} (l:List α) (p:α→Bool) (b:τ) {body:Int→Option (dU Int (Fl τ Unit))} (h:∀ (i:Nat) (hi:i<l.length),body (i:Int)=some (if p l[i] then .next ((i+1:Nat):Int) else .out (.done b)))
  (hout:body (l.length:Int)=some (.out (.go ()))):gL body (0:Int)=some (if l.all p then .go () else .done b):=by
 refine aFa (fun s=>∃ i:Nat,s=(i:Int)∧i≤l.length∧∀ (j:Nat) (hj:j<l.length),j<i→p l[j]=true) (fun s=>l.length - s.toNat) (fun _=>(if l.all p then Fl.go () else Fl.done b:Fl τ Unit)) ?_ _ ⟨0,rfl,by omega,by omega⟩
 rintro s ⟨i,rfl,hi,hp⟩
 by_cases hlt:i<l.length
 ·
  rw [h i hlt]
  by_cases hpi:p l[i]=true
  ·
   rw [bB hpi]
   exact .inl ⟨_,rfl,⟨i+1,rfl,hlt,fun j hj hji=>by rcases Nat.lt_succ_iff_lt_or_eq.1 hji with h1 | rfl;exact hp j hj h1;exact hpi⟩,by simp;omega,rfl⟩
  ·
   rw [aY hpi,aY (fun ha=>hpi (cI.1 ha _ (bN hlt)))]
   exact .inr rfl
 ·
  obtain rfl:i=l.length:=by omega
  rw [hout,bB (cI.2 fun x hx=>by obtain ⟨j,hj,rfl⟩:=qN.1 hx;exact hp j hj hj)]
  exact .inr rfl
theorem aHs {l:List cK} (h:aEy 240 mC l):yY l=some (l.all mE&&decide (l.length≤200)):=by
 unfold yY
 rw [aFN l mE false (fun i hi=>?_) ?_,aA]
 ·
  have e:decide ((l.length:Int)≤200)=decide (l.length≤200):=by rw [eF];simp;omega
  rw [e]
  cases l.all mE <;> simp [Fl.next]
 ·
  unfold vP
  rw [dO,aY (by omega)]
 ·
  unfold vP
  rw [dO,bB (by omega),iJ hi,aA,aC4 (h.2.2 _ (bN hi)),aA,nV hi h.1]
  cases mE l[i] <;> rfl
noncomputable def aSz (q:cW):Bool :=
 if q.Kind=1 then (lJ q.ID&&(nL q.Name&&(inB q.N 0 2&&(aKK q.Parent&&inB q.Seq 0 2000))))
 else if q.Kind=2∨q.Kind=5 then (lJ q.ID&&nL q.Name)
 else if q.Kind=3 then lJ q.ID
 else if q.Kind=4 then decide ((q.Name.length:Int)≤64)
 else if q.Kind=6 then inB q.Event 1 2000
 else if q.Kind=7 then (decide (1≤q.Token)&&(q.Commands.all mE&&decide (q.Commands.length≤200)))
 else if q.Kind=8 then (decide (1≤q.Token)&&inB q.N 1 30)
 else if q.Kind=9 then (inB q.Seq 1 2000&&inB q.N 1 1000)
 else if q.Kind=10∨q.Kind=12∨q.Kind=13 then (decide (1≤q.Token)&&inB q.Seq 1 2000)
 else if q.Kind=11 then (decide (1≤q.Token)&&(inB q.Seq 1 2000&&lJ q.Name))
 else if q.Kind=15 then (inB q.Seq 1 2000&&(inB q.N 20 22&&(decide ((q.Name.length:Int)≤4096)&&aDN q.ID)))
 else if q.Kind=16 then (inB q.Seq 1 2000&&(inB q.N 24 25&&decide ((q.Name.length:Int)≤4096)))
 else decide (1≤q.N)
noncomputable def aJd (q:cW):Bool :=
 inB q.Kind 1 17&&(inB q.Time 0 1099511627776&&((aBC q (vE q.Kind)&&((if q.Kind=14 then decide (q.Workflow=[]) else true)&&(if q.Kind=14∨q.Kind=1 then decide (q.Run=[]) else true)))&&(kR q.Data&&(aDN q.Run&&(if q.Kind=14 then true else (lJ q.Workflow&&aSz q))))))
theorem aVr {k a b:Int}:(cond (decide (k=a)) (some (decide (k=a))) (some (decide (k=b))))=some (decide (k=a∨k=b)):=by
 by_cases h:k=a
 ·
  rw [oJ h];simp [h]
 ·
  rw [decide_eq_false h];simp [h]
theorem aWe {k a b c:Int}:(cond (decide (k=a)) (some (decide (k=a))) (cond (decide (k=b)) (some (decide (k=b))) (some (decide (k=c)))))=some (decide (k=a∨k=b∨k=c)):=by
 by_cases h:k=a
 ·
  rw [oJ h];simp [h]
 ·
  rw [decide_eq_false h,aVr];simp [h]
theorem aFB {q:cW} (h:nQ q):aEI q=some (aJd q):=by
 have hd:dX q.Data:=h.2.2.2.2.2.2.2.2.2.2.1
 have hw:q.Workflow.length≤140737488355328:=hG h.2.2.1 (by decide)
 have hr:q.Run.length≤140737488355328:=hG h.2.2.2.1 (by decide)
 have hi:q.ID.length≤140737488355328:=hG h.2.2.2.2.1 (by decide)
 have hp:q.Parent.length≤140737488355328:=hG h.2.2.2.2.2.2.2.2.2.2.2.2.2 (by decide)
 have hc:=h.2.2.2.2.2.2.2.2.2.2.2.2.1
 unfold aEI aJd
 rw [show (aK.mk 0 0 [] [] [])=sR from rfl,show (dR.mk [] 0 0 0 0 0 0 0 0 [])=yF from rfl,aMb]
 simp only [aJ1,zH hd,aEH hr,aEH hi,aIn,wK,aNN hp,aHs hc,aVr,aWe]
 cases inB q.Kind 1 17
 ·
  rfl
 cases inB q.Time 0 1099511627776
 ·
  rfl
 simp only [aA,cJ,bP,eJ,dW]
 have g1:∀ {α:Type} [Inhabited α] (m:Option α),gd true m=m:=fun m=>rfl
 rw [g1,aA]
 simp only [cJ,bP,eJ]
 rw [g1,aA,g1,aQy h,aA]
 generalize (aBC q (vE q.Kind)&&((if q.Kind=14 then decide (q.Workflow=[]) else true)&&(if q.Kind=14∨q.Kind=1 then decide (q.Run=[]) else true)))=b
 cases b
 ·
  rfl
 cases kR q.Data
 ·
  rfl
 cases aDN q.Run
 ·
  rfl
 simp only [gdS,aA,cJ,bP,eJ,cL,dW]
 rw [dO]
 by_cases h14:q.Kind=14
 ·
  rw [bB h14,bB h14]
 rw [aY h14,aY h14]
 cases lJ q.Workflow
 ·
  rfl
 simp only [cJ,bP,dW]
 unfold aSz aKK
 simp only [cA,cT,cF,tF]
 simp only [dO]
 generalize lJ q.ID=a1
 generalize nL q.Name=a2
 generalize inB q.N 0 2=a3
 generalize (decide (q.Parent=[])||(aBG q.Parent).2.2&&decide ((q.Parent.length:Int)≤4096))=a4
 generalize inB q.Seq 0 2000=a5
 generalize decide (1≤q.Token)=a6
 generalize (q.Commands.all mE&&decide (q.Commands.length≤200))=a7
 generalize inB q.N 1 30=a8
 generalize inB q.Seq 1 2000=a9
 generalize inB q.N 1 1000=b1
 generalize lJ q.Name=b2
 generalize inB q.N 20 22=b3
 generalize decide ((q.Name.length:Int)≤4096)=b4
 generalize aDN q.ID=b5
 generalize inB q.N 24 25=b6
 by_cases h1:q.Kind=1
 ·
  rw [bB h1,bB h1];cases a1 <;> cases a2 <;> cases a3 <;> cases a4 <;> cases a5 <;> rfl
 rw [aY h1,aY h1]
 by_cases h2:q.Kind=2∨q.Kind=5
 ·
  rw [bB h2,bB h2]
 rw [aY h2,aY h2]
 by_cases h3:q.Kind=3
 ·
  rw [bB h3,bB h3]
 rw [aY h3,aY h3]
 by_cases h4:q.Kind=4
 ·
  rw [bB h4,bB h4]
 rw [aY h4,aY h4]
 by_cases h6:q.Kind=6
 ·
  rw [bB h6,bB h6]
 rw [aY h6,aY h6]
 by_cases h7:q.Kind=7
 ·
  rw [bB h7,bB h7];cases a6 <;> rfl
 rw [aY h7,aY h7]
 by_cases h8:q.Kind=8
 ·
  rw [bB h8,bB h8];cases a6 <;> rfl
 rw [aY h8,aY h8]
 by_cases h9:q.Kind=9
 ·
  rw [bB h9,bB h9];cases a9 <;> rfl
 rw [aY h9,aY h9]
 have e10:(if q.Kind=10 then some (decide (q.Kind=10)) else some (decide (q.Kind=12∨q.Kind=13)))=some (decide (q.Kind=10∨q.Kind=12∨q.Kind=13)):=by
  by_cases h:q.Kind=10 <;> simp [h]
 rw [e10,aA,dO]
 by_cases h10:q.Kind=10∨q.Kind=12∨q.Kind=13
 ·
  rw [bB h10,bB h10]
 rw [aY h10,aY h10]
 by_cases h11:q.Kind=11
 ·
  rw [bB h11,bB h11];cases a6 <;> cases a9 <;> rfl
 rw [aY h11,aY h11]
 by_cases h15:q.Kind=15
 ·
  rw [bB h15,bB h15];cases a9 <;> cases b3 <;> cases b4 <;> rfl
 rw [aY h15,aY h15]
 by_cases h16:q.Kind=16
 ·
  rw [bB h16,bB h16];cases a9 <;> rfl
 rw [aY h16,aY h16]
theorem aUI {n:Int}:(decide (n=20)||decide (n=21)||decide (n=22))=inB n 20 22:=by unfold inB;rw [eF];simp;omega
theorem aUJ {n:Int}:(decide (n=24)||decide (n=25))=inB n 24 25:=by unfold inB;rw [eF];simp;omega
theorem aLx (q:cW):zZ q=aJd q:=by
 unfold zZ aJd
 cases hK:inB q.Kind 1 17
 ·
  rfl
 cases inB q.Time 0 1099511627776
 ·
  rfl
 cases hb:aBC q (vE q.Kind)
 ·
  rfl
 cases kR q.Data
 ·
  simp
 simp only [dW]
 have hP:(vE q.Kind).parent_=false→aKK q.Parent=true:=fun hu=>by
  unfold aBC at hb
  rw [hu] at hb
  simp only [aR,kL,bU] at hb
  unfold aKK
  simp [hb.1.2]
 have hC:(vE q.Kind).commands_=false→q.Commands.all mE=true∧decide (q.Commands.length≤200)=true:=fun hu=>by
  unfold aBC at hb
  rw [hu] at hb
  simp only [aR,kL,bU] at hb
  have:q.Commands=[]:=eM (by omega)
  simp [this]
 clear hb
 unfold inB at hK
 simp only [aR,bU] at hK
 unfold aSz aNE aDJ
 rw [aUI,aUJ]
 generalize q.Commands.all mE=c1 at *
 generalize decide (q.Commands.length≤200)=c2 at *
 generalize aKK q.Parent=c3 at *
 generalize aDN q.Run=c4
 generalize aDN q.ID=c5
 generalize lJ q.Workflow=c6
 generalize lJ q.ID=c7
 generalize lJ q.Name=c8
 generalize nL q.Name=c9
 generalize decide (q.Workflow=[])=d1
 generalize decide (q.Run=[])=d2
 generalize decide (1≤q.Token)=d3
 generalize inB q.Event 1 2000=d4
 generalize decide ((q.Name.length:Int)≤4096)=d5
 generalize decide ((q.Name.length:Int)≤64)=d6
 generalize q.Kind=k at *
 have hk:k=1∨k=2∨k=3∨k=4∨k=5∨k=6∨k=7∨k=8∨k=9∨k=10∨k=11∨k=12∨k=13∨k=14∨k=15∨k=16∨k=17:=by omega
 rcases hk with rfl | rfl | rfl | rfl | rfl | rfl | rfl | rfl | rfl | rfl | rfl | rfl | rfl | rfl | rfl | rfl | rfl <;> simp [vE] at hP hC ⊢ <;> simp [hP,hC] <;> ac_rfl
theorem aBk {xs:List UInt8} (h:xs.length≤140737488355328):jW xs=some xs:=by
 rw [jW,wO (by simpa using h)];simp
theorem aE2 {b:List UInt8}{n:Int} (hb:b.length≤10000000000000) (h1:-9223372036854775808≤n) (h2:n≤9223372036854775807):hY b n=some (b++uF (zz n)):=by
 have hv:=aCB (aIu h1 h2)
 unfold hY
 rw [aBk (by omega),aA,sh1,aWm,aPq h1 h2]
 obtain ⟨r,hr,u,hu,hlt,he⟩:=yJ (body:=aAT) (fun s=>∃ u:Nat,s.2=(u:Int)∧u<18446744073709551616∧s.1++uF u=b++uF (zz n)) (fun s=>s.2.toNat)
  (fun r=>∃ u:Nat,r.2=(u:Int)∧u<128∧r.1++uF u=b++uF (zz n)) (fun s ⟨u,hu,hlt,he⟩=>by
   have hlen:s.1.length+(uF u).length=b.length+(uF (zz n)).length:=by simpa using qB List.length he
   unfold aAT
   rw [hu,dO]
   by_cases h:u<128
   ·
    rw [aY (by omega)]
    exact .inr ⟨_,rfl,u,rfl,h,he⟩
   ·
    rw [bB (by omega),aVT,aGu (by omega),aA,wO (by simp;omega),aA,sh7,aWn]
    refine .inl ⟨_,rfl,⟨u / 128,rfl,by omega,?_⟩,by simp;omega⟩
    rw [← he,aJg h,dJ,List.singleton_append]) (b,(zz n:Nat)) ⟨zz n,rfl,aIu h1 h2,rfl⟩
 have hlen:r.1.length+(uF u).length=b.length+(uF (zz n)).length:=by simpa using qB List.length he
 rw [hr,aA,hu,aHq (aQd (by omega)),aA,wO (by simp;omega),aA,← aG9 hlt,he]
theorem aIU {b s:List UInt8} (hb:b.length≤10000000000000) (hs:s.length≤10000000000000):kZ b s=some (b++uF (zz s.length)++s):=by
 have hv:=aCB (aIu (n:=(s.length:Int)) (by omega) (by omega))
 unfold kZ
 rw [aE2 (by omega) (by omega) (by omega),aA,wO (by simp;omega),aA]
theorem aRh {n:Int} (h1:-9223372036854775808≤n) (h2:n≤9223372036854775807):aAv n=some (zz n:Int):=by
 unfold aAv
 rw [dO]
 by_cases h:0≤n
 ·
  rw [bB h];congr 1;simp only [IntKind.wrap_u64,zz,h,cL];omega
 ·
  rw [aY h];congr 1;simp only [IntKind.wrap_u64,IntKind.wrap_i64,zz,h,dZ];omega
theorem aGT {b:List UInt8}{n:Int} (hb:b.length≤10000000000000) (h1:-9223372036854775808≤n) (h2:n≤9223372036854775807):jB b n=some (b++uF (zz n)):=by
 have hv:=aCB (aIu h1 h2)
 unfold jB
 rw [wO (by simp;omega),aA,iC,aRh h1 h2,aA]
 obtain ⟨r,hr,u,hu,hlt,he⟩:=yJ (body:=zK) (fun s=>∃ u:Nat,s.2=(u:Int)∧u<18446744073709551616∧s.1++uF u=b++uF (zz n)) (fun s=>s.2.toNat)
  (fun r=>∃ u:Nat,r.2=(u:Int)∧u<128∧r.1++uF u=b++uF (zz n)) (fun s ⟨u,hu,hlt,he⟩=>by
   have hlen:s.1.length+(uF u).length=b.length+(uF (zz n)).length:=by simpa using qB List.length he
   unfold zK
   rw [hu,dO]
   by_cases h:u<128
   ·
    rw [aY (by omega)]
    exact .inr ⟨_,rfl,u,rfl,h,he⟩
   ·
    rw [bB (by omega)]
    have e:IntKind.u8.wrap (IntKind.u64.wrap ((u:Int).tmod 128+128))=((128+u % 128:Nat):Int):=by
     rw [IntKind.wrap_u64,IntKind.wrap_u8,lK (by omega)];omega
    rw [e,aGu (by omega),aA,wO (by simp;omega),aA]
    have e2:IntKind.u64.wrap ((u:Int).tdiv 128)=((u / 128:Nat):Int):=by rw [IntKind.wrap_u64,pY (by omega)];omega
    rw [e2]
    refine .inl ⟨_,rfl,⟨u / 128,rfl,by omega,?_⟩,by simp;omega⟩
    rw [← he,aJg h,dJ,List.singleton_append]) (b,(zz n:Nat)) ⟨zz n,rfl,aIu h1 h2,rfl⟩
 have hlen:r.1.length+(uF u).length=b.length+(uF (zz n)).length:=by simpa using qB List.length he
 rw [hr,aA,hu,aHq (aQd (by omega)),aA,wO (by simp;omega),aA,← aG9 hlt,he]
theorem aKS {b s:List UInt8} (hb:b.length≤10000000000000) (hs:s.length≤10000000000000):kH b s=some (b++uF (zz s.length)++s):=by
 have hv:=aCB (aIu (n:=(s.length:Int)) (by omega) (by omega))
 unfold kH
 rw [aGT (by omega) (by omega) (by omega),aA]
 rw [aFa (body:=yL s) (fun x=>∃ i:Nat,x.2=(i:Int)∧i≤s.length∧x.1=b++uF (zz s.length)++s.take i) (fun x=>s.length - x.2.toNat) (fun _=>b++uF (zz s.length)++s) ?_ (b++uF (zz s.length),0) ⟨0,rfl,by omega,by simp⟩]
 ·
  rfl
 ·
  rintro ⟨o,i0⟩ ⟨i,hi0,hi,ho⟩
  simp only at hi0 ho
  subst hi0 ho
  unfold yL
  rw [dO]
  by_cases h:i<s.length
  ·
   rw [bB (by omega),aGB,aM h,aA,aJp,aA,wO (by simp;omega),aA]
   refine .inl ⟨_,rfl,⟨i+1,by rw [w64 (by omega) (by omega)];rfl,h,?_⟩,by simp only [w64 (show (-9223372036854775808:Int)≤(i:Int)+1 by omega) (by omega)];omega,rfl⟩
   rw [fF h];simp
  ·
   rw [aY (by omega),hZ (by omega)]
   exact .inr rfl

/- Plain laws: what the functions compute, with no program in sight. -/
import Derived.Test.YtnigjppddilpcaaGreatDoorGEPP0
import Derived.Test.YtnigjppddilpcaaGreatDoorGEF2
import Derived.Test.YtnigjppddilpcaaGreatDoorGEF3
import Derived.Test.YtnigjppddilpcaaGreatDoorGEF9
import Derived.Test.YtnigjppddilpcaaGreatDoorLib
import Derived.Test.YtnigjppddilpcaaGreatDoorGEF13
import Derived.Test.YtnigjppddilpcaaGreatDoorGEF15
import Derived.Test.YtnigjppddilpcaaGreatDoorPk2
import Derived.Test.YtnigjppddilpcaaGreatDoorGEF5
import Derived.Test.YtnigjppddilpcaaGreatDoorGEF10
import Derived.Test.YtnigjppddilpcaaGreatDoorGEF11
import Derived.Test.YtnigjppddilpcaaGreatDoorGEF14
import Derived.Test.YtnigjppddilpcaaGreatDoorGEF16
import Derived.Test.YtnigjppddilpcaaGreatDoorGEF0
import Derived.Test.YtnigjppddilpcaaGreatDoorGEF7
namespace Go.Proofs.YtnigjppddilpcaaGreatDoor
open Go Abs
set_option linter.unusedSimpArgs false
set_option linter.unusedVariables false
def tL:aQ:=⟨0,0,[],[],[]⟩
def yJ:dS:=⟨[],0,0,0,0,0,0,0,0,[]⟩
theorem aEH:eA tL:=by
 refine (hU _).2 ⟨?_,?_,?_,?_,?_⟩ <;> simp [tL,sQ,okS,aAc]
def lN (k:Int):kR :=
 if k=1 then ⟨true,true,false,false,true,true⟩
 else if k=2 then ⟨true,false,false,false,false,false⟩
 else if k=3 then ⟨true,false,false,true,false,false⟩
 else if k=4 then ⟨true,false,false,false,false,false⟩
 else if k=5 then ⟨true,true,true,true,true,false⟩
 else if k=6 then ⟨true,true,true,false,true,false⟩
 else if k=7 then ⟨false,true,false,true,true,false⟩
 else if k=8 then ⟨false,true,true,false,true,false⟩
 else if k=9 then ⟨false,false,true,true,true,false⟩
 else if k=12 then ⟨false,true,false,false,true,false⟩
 else ⟨false,false,false,false,true,false⟩
theorem aPx (k:Int):xN k=some (lN k):=by
 unfold xN lN
 by_cases h1:k=1
 ·
  simp [h1]
 by_cases h2:k=2
 ·
  simp [h2]
 by_cases h3:k=3
 ·
  simp [h3]
 by_cases h4:k=4
 ·
  simp [h4]
 by_cases h5:k=5
 ·
  simp [h5]
 by_cases h6:k=6
 ·
  simp [h6]
 by_cases h7:k=7
 ·
  simp [h7]
 by_cases h8:k=8
 ·
  simp [h8]
 by_cases h9:k=9
 ·
  simp [h9]
 by_cases h12:k=12
 ·
  simp [h12]
 simp [h1,h2,h3,h4,h5,h6,h7,h8,h9,h12]
def aGg (c:bY) (u:kR):Bool :=
 (u.seq_||decide (c.Seq=0))&&(u.name_||decide (c.Name=[]))&&(u.key_||decide (c.Key=[]))&&(u.n_||decide (c.N=0))&&(u.data_||sN c.Data tL)&&(u.opts_||aBE c.Opts yJ)
theorem aRW {c:bY}{u:kR} (h:lC c):aAr c u=some (aGg c u):=by
 unfold aAr aGg
 have hd:eA c.Data:=h.2.2.2.2.2.1
 have ho:jP c.Opts:=h.2.2.2.2.2.2
 rw [show (aQ.mk 0 0 [] [] [])=tL from rfl,show (dS.mk [] 0 0 0 0 0 0 0 0 [])=yJ from rfl,aDd hd,aC5 ho]
 cases u.seq_ <;> cases u.name_ <;> cases u.key_ <;> cases u.n_ <;> cases decide (c.Seq=0) <;> cases decide (c.Name=[]) <;> cases decide (c.Key=[]) <;> cases decide (c.N=0) <;> first | rfl | (cases u.data_ <;> cases u.opts_ <;> cases sN c.Data tL <;> rfl)
def aPI (c:bY):Bool :=
 if c.Kind=3 then inB c.N 1 1099511627776
 else if c.Kind=5 then inB c.N 0 2
 else if c.Kind=9 then inB c.N 0 1
 else if c.Kind=7 then decide (c.N=-1)||(inB c.N 0 2147483647&&decide (c.Data.Kind=0))
 else if c.Kind=10 then decide (c.Data.Kind=5)
 else if c.Kind=14 then aCn c.Data
 else true
theorem aPJ {c:bY} (h:lC c):xO c=some (aPI c):=by
 unfold xO aPI
 rw [aQN h.2.2.2.2.2.1]
 simp only [zG,dW,aA]
 by_cases h3:c.Kind=3
 ·
  simp only [h3,dP]
 by_cases h5:c.Kind=5
 ·
  simp only [h5,dP,Int.reduceEq,eU]
 by_cases h9:c.Kind=9
 ·
  simp only [h9,dP,Int.reduceEq,eU]
 by_cases h7:c.Kind=7
 ·
  simp only [h7,dP,Int.reduceEq,eU]
  by_cases hn:c.N=-1
  ·
   simp [hn,gd]
  ·
   cases inB c.N 0 2147483647 <;> by_cases hk:c.Data.Kind=0 <;> simp [hn,hk,gd]
 by_cases h10:c.Kind=10
 ·
  simp only [h10,dP,Int.reduceEq,eU]
 by_cases h14:c.Kind=14
 ·
  simp only [h14,dP,Int.reduceEq,eU]
 simp only [h3,h5,h9,h7,h10,h14,eU]
noncomputable def pC (c:bY):Bool :=
 inB c.Kind 1 14&&aGg c (lN c.Kind)&&nU c.Data&&aBS c.Opts&&(!(lN c.Kind).seq_||inB c.Seq 1 2000)&&(!(lN c.Kind).key_||nA c.Key)
  && (!(lN c.Kind).name_||(if c.Kind=12 then !qM c.Name else oY c.Name))&&aPI c
theorem aA4 {c:bY} (h:lC c):sH c=some (pC c):=by
 have hd:eA c.Data:=h.2.2.2.2.2.1
 have ho:jP c.Opts:=h.2.2.2.2.2.2
 have hk:c.Key.length≤9223372036854775807:=iR h.2.2.2.1 (by decide)
 unfold sH pC
 rw [aPx,aA]
 simp only [aRW h,aAT hd,aEy ho,aIY hk,wR,aPJ h,zG,aA]
 generalize lN c.Kind=u
 obtain ⟨useq,uname,ukey,un,udata,uopts⟩:=u
 simp only
 generalize aGg c _=b
 cases inB c.Kind 1 14
 ·
  simp [gd]
 cases b
 ·
  simp [gd]
 cases nU c.Data
 ·
  simp [gd]
 cases aBS c.Opts
 ·
  simp [gd]
 simp only [dA,cC,eQ,gd,dP,aA,dZ]
 have hl:decide ((4096:Int)<(c.Name.length:Int))=qM c.Name:=rfl
 rw [hl]
 by_cases h12:c.Kind=12
 ·
  simp only [h12,cL,dA,dJ,cC,dP]
  cases useq <;> cases ukey <;> cases uname <;> cases inB c.Seq 1 2000 <;> cases nA c.Key <;> cases qM c.Name <;> cases aPI c <;> rfl
 ·
  simp only [h12,dR,fZ,dJ,cC,eU]
  cases useq <;> cases ukey <;> cases uname <;> cases inB c.Seq 1 2000 <;> cases nA c.Key <;> cases oY c.Name <;> cases aPI c <;> rfl
theorem aMH:aBS yJ=true:=by decide
theorem aN6 {p:dS} (h:aBE p yJ=true):p=yJ:=by
 unfold aBE at h
 simp only [bZ,dT] at h
 obtain ⟨⟨⟨⟨⟨⟨⟨⟨⟨h1,h2⟩,h3⟩,h4⟩,h5⟩,h6⟩,h7⟩,h8⟩,h9⟩,h10⟩:=h
 cases p;simp_all [yJ]
theorem aBi (v:aQ):sN v v=true:=(aKQ (hgt v) v v (iV _)).2 rfl
theorem aDP (p:dS):aBE p p=true:=by simp [aBE]
theorem aGC {a b:bY} (hd:eA a.Data) (ho:jP a.Opts):aAd a b=some (decide (a.Kind=b.Kind)&&decide (a.Seq=b.Seq)&&decide (a.Name=b.Name)&&decide (a.Key=b.Key)&&decide (a.N=b.N)&&sN a.Data b.Data&&aBE a.Opts b.Opts):=by
 unfold aAd
 rw [aCD hd,vH ho]
 cases decide (a.Kind=b.Kind) <;> cases decide (a.Seq=b.Seq) <;> cases decide (a.Name=b.Name) <;> cases decide (a.Key=b.Key) <;> cases decide (a.N=b.N) <;> first | rfl | (cases sN a.Data b.Data <;> rfl)
def aKu (c:bY):bY :=
 ⟨c.Kind,if (lN c.Kind).seq_ then 0 else c.Seq,if (lN c.Kind).name_ then [] else c.Name,if (lN c.Kind).key_ then [] else c.Key,if (lN c.Kind).n_ then 0 else c.N,
  if (lN c.Kind).data_ then tL else c.Data,if (lN c.Kind).opts_ then yJ else c.Opts⟩
theorem aOe (c:bY):aCy c=some (aKu c):=by
 unfold aCy aKu lN
 obtain ⟨k,sq,nm,ky,n,d,o⟩:=c
 simp only
 by_cases h1:k=1
 ·
  subst h1;rfl
 by_cases h2:k=2
 ·
  subst h2;rfl
 by_cases h3:k=3
 ·
  subst h3;rfl
 by_cases h4:k=4
 ·
  subst h4;rfl
 by_cases h5:k=5
 ·
  subst h5;rfl
 by_cases h6:k=6
 ·
  subst h6;rfl
 by_cases h7:k=7
 ·
  subst h7;rfl
 by_cases h8:k=8
 ·
  subst h8;rfl
 by_cases h9:k=9
 ·
  subst h9;rfl
 by_cases h12:k=12
 ·
  subst h12;rfl
 simp [h1,h2,h3,h4,h5,h6,h7,h8,h9,h12,tL]
theorem aDa {c:bY} (h:lC c):xU c=some (pC c):=by
 have hd:eA c.Data:=h.2.2.2.2.2.1
 have ho:jP c.Opts:=h.2.2.2.2.2.2
 unfold xU pC
 rw [aOe,zL hd,wS,aH1,aCZ ho,aMN hd]
 have hb:aAd (aKu c) ⟨c.Kind,0,[],[],0,tL,yJ⟩=some (aGg c (lN c.Kind)):=by
  rw [aGC (by unfold aKu;simp only;split;exact aEH;exact hd) (by
   unfold aKu;simp only;split
   ·
    refine ⟨?_,?_,?_,?_,?_,?_,?_,?_,?_,?_⟩ <;> simp [yJ,sQ,okS,aAc]
   ·
    exact ho)]
  unfold aKu aGg
  generalize lN c.Kind=u
  obtain ⟨useq,uname,ukey,un,udata,uopts⟩:=u
  have z1:=aBi tL
  have z2:=aDP yJ
  cases useq <;> cases uname <;> cases ukey <;> cases un <;> cases udata <;> cases uopts <;> simp [z1,z2]
 simp only [aDR,aA]
 cases hin:inB c.Kind 1 14
 ·
  simp [gd]
 rw [show (bY.mk c.Kind 0 [] [] 0 ⟨0,0,[],[],[]⟩ ⟨[],0,0,0,0,0,0,0,0,[]⟩)=⟨c.Kind,0,[],[],0,tL,yJ⟩ from rfl]
 simp only [dA,eQ,gd,dP,aA,hb,cC,dZ]
 cases hbb:aGg c (lN c.Kind)
 ·
  simp [gd]
 simp only [dA,eQ,gd,dP,aA,cC,dZ]
 cases nU c.Data
 ·
  simp
 simp only [dA,cC,dZ]
 have hop:(lN c.Kind).opts_=true∨aBS c.Opts=true:=by
  cases hu:(lN c.Kind).opts_
  ·
   refine .inr ?_
   unfold aGg at hbb
   rw [hu] at hbb
   simp only [bZ,mK] at hbb
   rw [aN6 hbb.2,aMH]
  ·
   exact .inl rfl
 have hl:decide ((c.Name.length:Int)≤4096)=!qM c.Name:=by unfold qM;rw [eO];simp
 rw [hl]
 unfold aPI
 clear hb hbb hin h hd ho hl
 obtain ⟨k,sq,nm,ky,n,d,o⟩:=c
 simp only at hop ⊢
 generalize inB sq 1 2000=b1
 generalize oY nm=b2
 generalize nA ky=b3
 generalize aBS o=b4 at *
 generalize qM nm=b5
 generalize aCn d=b6
 by_cases h1:k=1
 ·
  subst h1
  cases b1 <;> cases b2 <;> cases b4 <;> rfl
 by_cases h2:k=2
 ·
  subst h2
  obtain rfl:b4=true:=by simpa [lN] using hop
  cases b1 <;> rfl
 by_cases h3:k=3
 ·
  subst h3
  obtain rfl:b4=true:=by simpa [lN] using hop
  cases b1 <;> simp [lN]
 by_cases h4:k=4
 ·
  subst h4
  obtain rfl:b4=true:=by simpa [lN] using hop
  cases b1 <;> rfl
 by_cases h5:k=5
 ·
  subst h5
  obtain rfl:b4=true:=by simpa [lN] using hop
  cases b1 <;> cases b2 <;> cases b3 <;> simp [lN]
 by_cases h6:k=6
 ·
  subst h6
  obtain rfl:b4=true:=by simpa [lN] using hop
  cases b1 <;> cases b2 <;> cases b3 <;> rfl
 by_cases h7:k=7
 ·
  subst h7
  obtain rfl:b4=true:=by simpa [lN] using hop
  by_cases hn:n=-1
  ·
   cases b2 <;> simp [lN,hn]
  ·
   cases b2 <;> cases inB n 0 2147483647 <;> by_cases hk:d.Kind=0 <;> simp [lN,hn,hk]
 by_cases h8:k=8
 ·
  subst h8
  obtain rfl:b4=true:=by simpa [lN] using hop
  cases b2 <;> cases b3 <;> rfl
 by_cases h9:k=9
 ·
  subst h9
  obtain rfl:b4=true:=by simpa [lN] using hop
  cases b3 <;> simp [lN]
 by_cases h10:k=10
 ·
  subst h10
  obtain rfl:b4=true:=by simpa [lN] using hop
  simp [lN]
 by_cases h12:k=12
 ·
  subst h12
  obtain rfl:b4=true:=by simpa [lN] using hop
  simp [lN]
 by_cases h14:k=14
 ·
  subst h14
  obtain rfl:b4=true:=by simpa [lN] using hop
  simp [lN]
 ·
  have:b4=true:=by simpa [lN,h1,h2,h3,h4,h5,h6,h7,h8,h9,h10,h12,h14] using hop
  subst this
  simp [lN,h1,h2,h3,h4,h5,h6,h7,h8,h9,h10,h12,h14]
def aBT (s:List UInt8):List UInt8 × List UInt8 × Bool :=
 if Lib.indexByte s 47<0 then ([],[],false)
 else if 0≤Lib.indexByte (s.drop ((Lib.indexByte s 47).toNat+1)) 47 then ([],[],false)
 else (s.take (Lib.indexByte s 47).toNat,s.drop ((Lib.indexByte s 47).toNat+1),true)
theorem aIX (s:List UInt8) (c:UInt8):(Lib.indexByte s c=-1∧∀ k:Nat,s[k]?≠some c)∨∃ o:Nat,Lib.indexByte s c=(o:Int)∧s[o]?=some c∧(∀ k:Nat,k<o→s[k]?≠some c)∧o<s.length:=by
 by_cases h:Lib.indexByte s c=-1
 ·
  exact .inl ⟨h,Lib.indexByte_none h⟩
 ·
  have hg:=Lib.indexByte_ge s c
  obtain ⟨o,ho⟩:∃ o:Nat,Lib.indexByte s c=(o:Int):=⟨(Lib.indexByte s c).toNat,by omega⟩
  obtain ⟨h1,h2⟩:=Lib.indexByte_some ho
  exact .inr ⟨o,ho,h1,h2,(cD.1 h1).1⟩
theorem aEU (s:List UInt8):((∀ k:Nat,s[k]?≠some 47)∧aBT s=([],[],false))∨(∃ i j:Nat,i<j∧s[i]?=some 47∧s[j]?=some 47∧aBT s=([],[],false))∨∃ j:Nat,s[j]?=some 47∧(∀ k:Nat,k≠j→s[k]?≠some 47)∧j<s.length∧aBT s=(s.take j,s.drop (j+1),true):=by
 unfold aBT
 rcases aIX s 47 with ⟨h1,h2⟩ | ⟨o,h1,h2,h3,h4⟩
 ·
  exact .inl ⟨h2,by rw [bH (by omega)]⟩
 ·
  rw [bE (by omega),h1,mZ]
  rcases aIX (s.drop (o+1)) 47 with ⟨k1,k2⟩ | ⟨p,k1,k2,k3,k4⟩
  ·
   refine .inr (.inr ⟨o,h2,fun k hk=>?_,h4,by rw [bE (by omega)]⟩)
   rcases Nat.lt_or_gt_of_ne hk with hk | hk
   ·
    exact h3 k hk
   ·
    have:=k2 (k - (o+1))
    rw [iN,show o+1+(k - (o+1))=k by omega] at this
    exact this
  ·
   rw [iN] at k2
   exact .inr (.inl ⟨o,o+1+p,by omega,h2,k2,by rw [bH (by omega)]⟩)
theorem aPY {s:List UInt8}{j:Nat} (h:s[j]?=some 47) (hu:∀ k:Nat,k≠j→s[k]?≠some 47):aBT s=(s.take j,s.drop (j+1),true):=by
 rcases aEU s with ⟨h1,_⟩ | ⟨i,k,hik,h1,h2,_⟩ | ⟨i,h1,h2,_,h3⟩
 ·
  exact absurd h (h1 j)
 ·
  by_cases e:i=j
  ·
   exact absurd h2 (hu k (by omega))
  ·
   exact absurd h1 (hu i e)
 ·
  have:i=j:=Decidable.byContradiction fun e=>hu i e h1
  rw [h3,this]
theorem aPZ {s:List UInt8}{i j:Nat} (hij:i<j) (h:s[i]?=some 47) (h':s[j]?=some 47):aBT s=([],[],false):=by
 rcases aEU s with ⟨_,h2⟩ | ⟨_,_,_,_,_,h2⟩ | ⟨k,h1,h2,_,h3⟩
 ·
  exact h2
 ·
  exact h2
 ·
  by_cases e:i=k
  ·
   exact absurd h' (h2 j (by omega))
  ·
   exact absurd h (h2 i e)
theorem aOk {s:List UInt8} (h:∀ k:Nat,s[k]?≠some 47):aBT s=([],[],false):=by
 rcases aEU s with ⟨_,h2⟩ | ⟨_,_,_,_,_,h2⟩ | ⟨k,h1,_⟩
 ·
  exact h2
 ·
  exact h2
 ·
  exact absurd h1 (h k)
theorem aTb {s:List UInt8} (h:s.length≤140737488355328):aBJ s [47]=some (if Lib.indexByte s 47<0 then (s,[],false) else (s.take (Lib.indexByte s 47).toNat,s.drop ((Lib.indexByte s 47).toNat+1),true)):=by
 unfold aBJ zX xG
 simp only [aA]
 rcases aIX s 47 with ⟨h1,h2⟩ | ⟨o,h1,h2,h3,h4⟩
 ·
  rw [h1];rfl
 ·
  rw [h1,dW,bH (by omega),bE (by omega),aLw (by omega),aA]
  simp only [List.length_singleton]
  rw [w64 (by omega) (by omega),aGK (by omega),aA,aA,show ((o:Int)+((1:Nat):Int)).toNat=o+1 by omega,mZ]
theorem aJY {s:List UInt8} (h:s.length≤140737488355328):aCs s=some (aBT s):=by
 unfold aCs yS aBT
 rw [aTb h,aA]
 by_cases h1:Lib.indexByte s 47<0
 ·
  rw [bH h1,bH h1]
  simp [gd]
 ·
  rw [bE h1,bE h1]
  by_cases h2:0≤Lib.indexByte (s.drop ((Lib.indexByte s 47).toNat+1)) 47
  ·
   rw [bH h2];simp [gd,h2]
  ·
   rw [bE h2];simp [gd,h2]
theorem aJ6 {s:List UInt8} (h:s.length≤140737488355328):∃ x,fK (aAE s) ((-1:Int),(0:Int))=some x∧((x=Fl.done ([],[],false)∧∃ i j:Nat,i<j∧s[i]?=some 47∧s[j]?=some 47)∨(x=Fl.go (-1)∧∀ k:Nat,s[k]?≠some 47)∨∃ j:Nat,x=Fl.go (j:Int)∧s[j]?=some 47∧(∀ k:Nat,k≠j→s[k]?≠some 47)∧j<s.length):=by
 refine aDL (fun t=>∃ i:Nat,t.2=(i:Int)∧i≤s.length∧((t.1=-1∧∀ k:Nat,k<i→s[k]?≠some 47)∨∃ j:Nat,t.1=(j:Int)∧j<i∧s[j]?=some 47∧∀ k:Nat,k<i→k≠j→s[k]?≠some 47)) (fun t=>s.length - t.2.toNat) _ ?_ _ ⟨0,rfl,by omega,.inl ⟨rfl,fun k hk=>absurd hk (Nat.not_lt_zero k)⟩⟩
 rintro ⟨x,i0⟩ ⟨i,hi0,hle,hx⟩
 simp only at hi0 hx
 subst hi0
 unfold aAE
 simp only
 by_cases hc:i<s.length
 ·
  rw [dW,bH (by omega),kM hc,aA,vN hc (by omega)]
  have hg:s[i]?=some s[i]:=aT hc
  have h47:((s[i].toNat:Int)=47)↔s[i]=47:=by
   constructor
   ·
    intro e
    have:s[i].toNat=(47:UInt8).toNat:=by show s[i].toNat=47;omega
    exact UInt8.toNat_inj.1 this
   ·
    intro e;rw [e];rfl
  generalize s[i]=c at *
  by_cases hcc:c=47
  ·
   have e1:((c.toNat:Int)=47):=h47.2 hcc
   subst hcc
   rcases hx with ⟨rfl,hn⟩ | ⟨j,rfl,hj,hj1,hn⟩
   ·
    simp only [e1,cL,dJ,show decide ((0:Int)≤-1)=false from rfl,cC,aA]
    refine .inl ⟨_,rfl,⟨i+1,rfl,hc,.inr ⟨i,rfl,by omega,hg,fun k hk hne=>hn k (by omega)⟩⟩,by simp;omega⟩
   ·
    have e2:decide ((0:Int)≤(j:Int))=true:=by simp
    simp only [e1,cL,dJ,e2]
    exact .inr ⟨_,rfl,.inl ⟨rfl,j,i,hj,hj1,hg⟩⟩
  ·
   have e1:¬((c.toNat:Int)=47):=fun e=>hcc (h47.1 e)
   have hne:s[i]?≠some 47:=by rw [hg];simpa using hcc
   simp only [e1,dR,cC,aA]
   refine .inl ⟨_,rfl,⟨i+1,rfl,hc,?_⟩,by simp;omega⟩
   rcases hx with ⟨rfl,hn⟩ | ⟨j,rfl,hj,hj1,hn⟩
   ·
    refine .inl ⟨rfl,fun k hk=>?_⟩
    by_cases e:k=i
    ·
     rw [e];exact hne
    ·
     exact hn k (by omega)
   ·
    refine .inr ⟨j,rfl,by omega,hj1,fun k hk hkj=>?_⟩
    by_cases e:k=i
    ·
     rw [e];exact hne
    ·
     exact hn k (by omega) hkj
 ·
  rw [dW,bE (by omega)]
  have:i=s.length:=by omega
  subst this
  have hout:∀ k:Nat,¬k<s.length→s[k]?≠some 47:=fun k hk=>by rw [lG (by omega)];simp
  refine .inr ⟨_,rfl,.inr ?_⟩
  rcases hx with ⟨rfl,hn⟩ | ⟨j,rfl,hj,hj1,hn⟩
  ·
   refine .inl ⟨rfl,fun k=>?_⟩
   by_cases hk:k<s.length
   ·
    exact hn k hk
   ·
    exact hout k hk
  ·
   refine .inr ⟨j,rfl,hj1,fun k hkj=>?_,hj⟩
   by_cases hk:k<s.length
   ·
    exact hn k hk hkj
   ·
    exact hout k hk
theorem aMR {s:List UInt8} (h:s.length≤140737488355328):aBF s=some (aBT s):=by
 obtain ⟨x,hx,hc⟩:=aJ6 h
 unfold aBF
 rw [hx,aA]
 rcases hc with ⟨rfl,i,j,h1,h2,h3⟩ | ⟨rfl,h1⟩ | ⟨j,rfl,h1,h2,h3⟩
 ·
  rw [aPZ h1 h2 h3];rfl
 ·
  rw [aOk h1];rfl
 ·
  rw [aPY h1 h2]
  simp only [Fl.next]
  rw [dW,bE (by omega),aLw (by omega),aA,w64 (by omega) (by omega),aGK (by omega),aA,mZ,show ((j:Int)+1).toNat=j+1 by omega]
set_option maxRecDepth 100000
theorem aEo (n:Nat):(∀ a0 m,n≤m→LeO (lR n a0) (lR m a0)):=by
 induction n with
 | zero=>exact fun _ _ _=>by intro r h;simp [lR] at h
 | succ n ih =>
  intro a0 m hm
  obtain ⟨m,rfl⟩:∃ k,m=k+1:=⟨m - 1,by omega⟩
  rw [lR,lR]
  repeat' with_reducible (first | exact ih _ _ (by omega) | refine aDH ?_ (fun _=>?_) | refine aDI ?_ ?_ | refine aI4 ?_ | refine aDJ (fun _=>?_) | refine aCq (fun _=>?_) | exact aCV _)
theorem aHn {n:Nat}{p0n:Int}{r:(List UInt8)} (h:lR n p0n=some r):yO p0n=some r:=by
 unfold yO
 exact aNZ (n:=n) h fun m hm=>(aEo n) p0n m hm
theorem xD (rL zK:Int→Int→aX→Option (aQ × Int × aX)) (x1:(Int × aX)) (sJ:Int) (mY:Int) (s10:(Int × Int × aX × (List aQ) × (List (List UInt8)))) (hrec_value_decoder_value:∀ a0 a1 a2,LeO (zK a0 a1 a2) (rL a0 a1 a2)):LeO (jV zK x1 sJ mY s10) (jV rL x1 sJ mY s10):=by
 unfold jV
 repeat' with_reducible (first | exact hrec_value_decoder_value _ _ _ | refine aDH ?_ (fun _=>?_) | refine aDI ?_ ?_ | refine aI4 ?_ | refine aDJ (fun _=>?_) | refine aCq (fun _=>?_) | exact aCV _)
theorem aBR (n:Nat):(∀ a0 a1 a2 a3 a4 a5 m,n≤m→LeO (jZ n a0 a1 a2 a3 a4 a5) (jZ m a0 a1 a2 a3 a4 a5))∧(∀ a0 a1 a2 m,n≤m→LeO (gF n a0 a1 a2) (gF m a0 a1 a2)):=by
 induction n with
 | zero=>exact ⟨fun _ _ _ _ _ _ _ _=>by intro r h;simp [jZ] at h,fun _ _ _ _ _=>by intro r h;simp [gF] at h⟩
 | succ n ih =>
  refine ⟨?_,?_⟩
  ·
   intro a0 a1 a2 a3 a4 a5 m hm
   obtain ⟨m,rfl⟩:∃ k,m=k+1:=⟨m - 1,by omega⟩
   rw [jZ,jZ]
   repeat' with_reducible (first | exact ih.1 _ _ _ _ _ _ _ (by omega) | exact ih.2 _ _ _ _ (by omega) | refine xD _ _ _ _ _ _ (fun _ _ _=>?_) | refine aDH ?_ (fun _=>?_) | refine aDI ?_ ?_ | refine aI4 ?_ | refine aDJ (fun _=>?_) | refine aCq (fun _=>?_) | exact aCV _)
  ·
   intro a0 a1 a2 m hm
   obtain ⟨m,rfl⟩:∃ k,m=k+1:=⟨m - 1,by omega⟩
   rw [gF,gF]
   repeat' with_reducible (first | exact ih.1 _ _ _ _ _ _ _ (by omega) | exact ih.2 _ _ _ _ (by omega) | refine xD _ _ _ _ _ _ (fun _ _ _=>?_) | refine aDH ?_ (fun _=>?_) | refine aDI ?_ ?_ | refine aI4 ?_ | refine aDJ (fun _=>?_) | refine aCq (fun _=>?_) | exact aCV _)
theorem aDv {n:Nat}{lD:Int}{eD:Int}{jQ:aX}{r:(aQ × Int × aX)} (h:gF n lD eD jQ=some r):nT lD eD jQ=some r:=by
 unfold nT
 exact aNZ (n:=n) h fun m hm=>(aBR n).2 lD eD jQ m hm
theorem xC (rK zJ:Int→Int→aV→Option (aQ × Int × aV)) (x1:(Int × aV)) (sJ:Int) (mY:Int) (s8:(Int × Int × aV × (List aQ) × (List (List UInt8)))) (hrec_ref02xdecoder_value:∀ a0 a1 a2,LeO (zJ a0 a1 a2) (rK a0 a1 a2)):LeO (gJ zJ x1 sJ mY s8) (gJ rK x1 sJ mY s8):=by
 unfold gJ
 repeat' with_reducible (first | exact hrec_ref02xdecoder_value _ _ _ | refine aDH ?_ (fun _=>?_) | refine aDI ?_ ?_ | refine aI4 ?_ | refine aDJ (fun _=>?_) | refine aCq (fun _=>?_) | exact aCV _)
theorem aBQ (n:Nat):(∀ a0 a1 a2 a3 a4 a5 m,n≤m→LeO (jX n a0 a1 a2 a3 a4 a5) (jX m a0 a1 a2 a3 a4 a5))∧(∀ a0 a1 a2 m,n≤m→LeO (fC n a0 a1 a2) (fC m a0 a1 a2)):=by
 induction n with
 | zero=>exact ⟨fun _ _ _ _ _ _ _ _=>by intro r h;simp [jX] at h,fun _ _ _ _ _=>by intro r h;simp [fC] at h⟩
 | succ n ih =>
  refine ⟨?_,?_⟩
  ·
   intro a0 a1 a2 a3 a4 a5 m hm
   obtain ⟨m,rfl⟩:∃ k,m=k+1:=⟨m - 1,by omega⟩
   rw [jX,jX]
   repeat' with_reducible (first | exact ih.1 _ _ _ _ _ _ _ (by omega) | exact ih.2 _ _ _ _ (by omega) | refine xC _ _ _ _ _ _ (fun _ _ _=>?_) | refine aDH ?_ (fun _=>?_) | refine aDI ?_ ?_ | refine aI4 ?_ | refine aDJ (fun _=>?_) | refine aCq (fun _=>?_) | exact aCV _)
  ·
   intro a0 a1 a2 m hm
   obtain ⟨m,rfl⟩:∃ k,m=k+1:=⟨m - 1,by omega⟩
   rw [fC,fC]
   repeat' with_reducible (first | exact ih.1 _ _ _ _ _ _ _ (by omega) | exact ih.2 _ _ _ _ (by omega) | refine xC _ _ _ _ _ _ (fun _ _ _=>?_) | refine aDH ?_ (fun _=>?_) | refine aDI ?_ ?_ | refine aI4 ?_ | refine aDJ (fun _=>?_) | refine aCq (fun _=>?_) | exact aCV _)
theorem aDp {n:Nat}{lD:Int}{eD:Int}{jQ:aV}{r:(aQ × Int × aV)} (h:fC n lD eD jQ=some r):uZ lD eD jQ=some r:=by
 unfold uZ
 exact aNZ (n:=n) h fun m hm=>(aBQ n).2 lD eD jQ m hm
theorem aHb {u:Nat} (h:u<10):Lib.decDigits u=[UInt8.ofNat (48+u)]:=by rw [Lib.decDigits];simp [h]
theorem aK6 {u:Nat} (h:¬u<10):Lib.decDigits u=Lib.decDigits (u / 10)++[UInt8.ofNat (48+u % 10)]:=by rw [Lib.decDigits];simp [h]
theorem aIp:∀ (k u:Nat),u<10 ^ (k+1)→(Lib.decDigits u).length≤k+1
 | 0,u,h=>by rw [aHb (by omega)];simp
 | k+1,u,h=>by
  by_cases hu:u<10
  ·
   rw [aHb hu];simp
  ·
   rw [aK6 hu]
   have:=aIp k (u / 10) (by rw [pT] at h;omega)
   simp;omega
theorem aEF {s:List UInt8} (h:s.length≤140737488355328):aAj s=some (xE s):=by unfold aAj;rw [bH h]
theorem aNM:∀ (n u:Nat),u<10 ^ (n+1)→u≤9223372036854775808→n≤30→lR (n+1) (-(u:Int))=some (Lib.decDigits u):=by
 intro n
 induction n with
 | zero =>
  intro u h hb _
  have hu:u<10:=by omega
  rw [lR]
  have e1:IntKind.u8.wrap (IntKind.i64.wrap (48+IntKind.i64.wrap (0 - (-(u:Int)).tmod 10)))=((48+u:Nat):Int):=by
   have:(-(u:Int)).tmod 10=-(u:Int):=by rw [Int.neg_tmod,nX (by omega)];omega
   rw [this,IntKind.wrap_u8,IntKind.wrap_i64,IntKind.wrap_i64];omega
  rw [e1,aIO (by omega),aA,dW,bH (by omega),aHb hu]
 | succ n ih =>
  intro u h hb hn
  rw [lR]
  have e1:IntKind.u8.wrap (IntKind.i64.wrap (48+IntKind.i64.wrap (0 - (-(u:Int)).tmod 10)))=((48+u % 10:Nat):Int):=by
   have:(-(u:Int)).tmod 10=-((u % 10:Nat):Int):=by rw [Int.neg_tmod,nX (by omega)];omega
   rw [this,IntKind.wrap_u8,IntKind.wrap_i64,IntKind.wrap_i64];omega
  rw [e1,aIO (by omega),aA,dW]
  by_cases hu:u<10
  ·
   rw [bH (by omega),aHb hu,Nat.mod_eq_of_lt hu]
  ·
   rw [bE (by omega)]
   have e2:IntKind.i64.wrap ((-(u:Int)).tdiv 10)=-((u / 10:Nat):Int):=by
    have:(-(u:Int)).tdiv 10=-((u / 10:Nat):Int):=by rw [Int.neg_tdiv,Int.tdiv_eq_ediv_of_nonneg (by omega)];omega
    rw [this,w64 (by omega) (by omega)]
   have hl:=aIp n (u / 10) (by rw [pT] at h;omega)
   rw [e2,ih (u / 10) (by rw [pT] at h;omega) (by omega) (by omega),aA,aQt (by simp;omega),aA,aK6 hu]
theorem aPu {u:Nat} (h:u≤9223372036854775808):yO (-(u:Int))=some (Lib.decDigits u):=aHn (aNM 19 u (by omega) h (by omega))
theorem aH0 {n:Int} (h:sQ n):aDq n=some (aEp n):=by
 unfold aDq aEp
 rw [dW]
 by_cases h1:n<1
 ·
  rw [bH h1,bH h1]
 ·
  rw [bE h1,bE h1]
  obtain ⟨h2,h3⟩:=h
  unfold aBo
  obtain ⟨u,rfl⟩:∃ u:Nat,n=(u:Int):=⟨n.toNat,by omega⟩
  rw [dW,bE (by omega),show (0:Int) - (u:Int)=-(u:Int) by omega,w64 (by omega) (by omega),aPu (by omega),aA,aA]
  have hl:=aIp 18 u (by omega)
  rw [aQt (by simp;omega),aA,Lib.itoa_nonneg];rfl
def rdS (a:Nat) (c:UInt8):Nat:=10*a+(c.toNat - 48)
def rd (a:Nat) (l:List UInt8):Nat:=l.foldl rdS a
theorem aGz (c:UInt8) (l:List UInt8) (a:Nat):rd a (c :: l)=rd (rdS a c) l:=List.foldl_cons ..
theorem aHl (a:Nat):rd a []=a:=List.foldl_nil ..
theorem aHk (l m:List UInt8) (a:Nat):rd a (l++m)=rd (rd a l) m:=List.foldl_append ..
theorem aTB (a:Nat) (c:UInt8):a≤rdS a c:=by unfold rdS;omega
theorem aRj:∀ (l:List UInt8) (a:Nat),a≤rd a l
 | [],a=>by rw [aHl];exact iV a
 | c :: l,a=>by rw [aGz];exact iR (aTB a c) (aRj l (rdS a c))
def dig (c:UInt8):Prop:=48≤c.toNat∧c.toNat≤57
theorem aQA {u:Nat} (h:u<10):dig (UInt8.ofNat (48+u))∧(UInt8.ofNat (48+u)).toNat - 48=u:=by
 have:(UInt8.ofNat (48+u)).toNat=48+u:=by simp;omega
 unfold dig;omega
theorem aN9:∀ u,rd 0 (Lib.decDigits u)=u∧∀ c∈Lib.decDigits u,dig c:=by
 intro u
 induction u using Nat.strongRecOn with
 | _ u ih =>
  by_cases h:u<10
  ·
   obtain ⟨h1,h2⟩:=aQA h
   rw [aHb h,aGz,aHl]
   refine ⟨?_,by simp only [kQ];rintro c rfl;exact h1⟩
   unfold rdS
   omega
  ·
   obtain ⟨h1,h2⟩:=aQA (u:=u % 10) (by omega)
   obtain ⟨i1,i2⟩:=ih (u / 10) (by omega)
   rw [aK6 h,aHk,i1,aGz,aHl]
   refine ⟨?_,?_⟩
   ·
    unfold rdS
    omega
   ·
    intro c hc
    rcases fH.1 hc with hc | hc
    ·
     exact i2 c hc
    ·
     rw [kQ.1 hc];exact h1
theorem aTd (u:Nat):Lib.decDigits u≠[]:=by
 by_cases h:u<10
 ·
  rw [aHb h];simp
 ·
  rw [aK6 h];simp
theorem aRa:∀ (l:List UInt8) (a:Nat),(∀ c∈l,dig c)→rd a l<18446744073709551616→Lib.parseUint10 a l=.ok (rd a l):=by
 intro l
 induction l with
 | nil=>intro a _ _;rw [aHl,Lib.parseUint10]
 | cons c l ih =>
  intro a hd hr
  have hc:=hd c (by simp)
  have hge:=aRj l (rdS a c)
  rw [aGz] at hr ⊢
  unfold dig at hc
  have hs:rdS a c=10*a+(c.toNat - 48):=rfl
  rw [Lib.parseUint10,bH hc,bE (by omega),rP a 10,bE (by omega),← hs]
  exact ih _ (fun x hx=>hd x (by simp [hx])) hr
theorem aQo {u:Nat} (h:u≤9223372036854775807):Lib.atoiAll (Lib.decDigits u)=.ok (u:Int):=by
 obtain ⟨h1,h2⟩:=aN9 u
 have hp:=aRa (Lib.decDigits u) 0 h2 (by omega)
 rw [h1] at hp
 have hne:=aTd u
 generalize Lib.decDigits u=l at *
 cases l with
 | nil=>exact absurd rfl hne
 | cons c r =>
  have hc:=h2 c (by simp)
  unfold dig at hc
  unfold Lib.atoiAll
  simp only
  rw [bE (by omega)]
  unfold Lib.parseMag
  rw [bE (by simp),hp]
  simp only
  rw [bE (by omega),bE (by omega),bE (by omega)]
theorem aMU {v:Int} (h:1≤v):aEp v=114 :: Lib.decDigits v.toNat:=by
 unfold aEp
 rw [bE (by omega)]
 obtain ⟨u,rfl⟩:∃ u:Nat,v=(u:Int):=⟨v.toNat,by omega⟩
 rw [Lib.itoa_nonneg];rfl
theorem aMC {v:Int} (h1:1≤v) (h2:v≤9223372036854775807):xE (aEp v)=(v,true):=by
 unfold xE
 have hr:=aMU h1
 have hp:Lib.hasPrefix (aEp v) [114]=true:=by rw [hr];simp [Lib.hasPrefix]
 have ht:Lib.trimPrefix (aEp v) [114]=Lib.decDigits v.toNat:=by unfold Lib.trimPrefix;rw [bH hp,hr];rfl
 rw [bH hp,ht,aQo (by omega)]
 simp only
 rw [show ((v.toNat:Nat):Int)=v by omega,bH ⟨rfl,h1⟩]
theorem aMB (s:List UInt8):(∃ v:Int,1≤v∧v≤9223372036854775807∧aEp v=s∧xE s=(v,true))∨((∀ v:Int,1≤v→v≤9223372036854775807→aEp v≠s)∧xE s=(0,false)):=by
 by_cases h:∃ v:Int,1≤v∧v≤9223372036854775807∧aEp v=s
 ·
  obtain ⟨v,h1,h2,rfl⟩:=h
  exact .inl ⟨v,h1,h2,rfl,aMC h1 h2⟩
 ·
  refine .inr ⟨fun v h1 h2 h3=>h ⟨v,h1,h2,h3⟩,?_⟩
  unfold xE
  split
  ·
   split
   ·
    rename_i v hv
    have hb:=aL5 hv
    rw [bE fun hh=>h ⟨v,hh.2,hb.2,hh.1⟩]
   ·
    rfl
  ·
   rfl
theorem aTV {x:Int} (h1:-9223372036854775808≤x) (h2:x≤9223372036854775807):(x+9223372036854775808) % 18446744073709551616 - 9223372036854775808=x:=by omega
theorem aTW {x:Int} (h1:-9223372036854775808≤x - 48) (h2:x - 48≤9223372036854775807):((x+9223372036854775808) % 18446744073709551616 - 9223372036854775808 - 48+9223372036854775808) % 18446744073709551616 - 9223372036854775808=x - 48:=by omega
theorem aRk (c:UInt8) (l:List UInt8):rd 0 (((c :: l).take 1).drop 1)=0:=by
 rw [List.take_succ_cons,List.take_zero,List.drop_succ_cons,List.drop_zero,aHl]
theorem aQC (c:UInt8) (l:List UInt8):(c :: l).drop 1=l:=by rw [List.drop_succ_cons,List.drop_zero]
theorem aJk {s:List UInt8} (h:s.length≤140737488355328):∃ x,fK (zT s) ((0:Int),(1:Int))=some x∧sQ x∧∀ u:Nat,1≤u→u≤9223372036854775807→s=114 :: Lib.decDigits u→x=(u:Int):=by
 refine aDL (fun t=>∃ i:Nat,t.2=(i:Int)∧1≤i∧sQ t.1∧∀ u:Nat,1≤u→u≤9223372036854775807→s=114 :: Lib.decDigits u→i≤s.length∧t.1=(rd 0 ((s.take i).drop 1):Int)) (fun t=>s.length - t.2.toNat) _ ?_ _ ⟨1,rfl,by omega,by simp [sQ],fun u _ _ hs=>⟨by rw [hs,fU];omega,by rw [hs,aRk];rfl⟩⟩
 rintro ⟨x,i0⟩ ⟨i,hi0,h1,hx,hu⟩
 simp only at hi0 hx hu
 subst hi0
 unfold zT
 by_cases hc:i<s.length∧s.length≤20
 ·
  have e:(cond (decide ((i:Int)<(s.length:Int))) (decide ((s.length:Int)≤20)) false)=true:=by
   have a1:(i:Int)<s.length:=by omega
   have a2:(s.length:Int)≤20:=by omega
   simp [a1,a2]
  simp only
  rw [e,dJ,kM hc.1,aA,vN hc.1 (by omega)]
  refine .inl ⟨_,rfl,⟨i+1,rfl,by omega,?_,fun u hu1 hu2 hs=>⟨hc.1,?_⟩⟩,by simp;omega⟩
  ·
   simp only [sQ,IntKind.wrap_i64];omega
  ·
   obtain ⟨hi,hxe⟩:=hu u hu1 hu2 hs
   simp only
   have hr:=aN9 u
   have hsplit:(s.take (i+1)).drop 1=(s.take i).drop 1++[s[i]]:=by
    rw [List.take_succ_eq_append_getElem hc.1,lA (by simp;omega)]
   have hd:dig s[i]:=by
    refine hr.2 _ ?_
    have:s.drop 1=Lib.decDigits u:=by rw [hs,aQC]
    rw [← this]
    have:s[i]=(s.drop 1)[i - 1]'(by simp;omega):=by simp only [List.getElem_drop];congr 1;omega
    rw [this];exact dB _
   have hle:rd 0 ((s.take (i+1)).drop 1)≤u:=by
    have h2:s.drop 1=(s.take (i+1)).drop 1++s.drop (i+1):=by
     conv=>lhs;rw [← List.take_append_drop (i+1) s,lA (by simp;omega)]
    have h3:rd 0 (s.drop 1)=u:=by rw [hs,aQC];exact hr.1
    rw [h2,aHk] at h3
    have:=aRj (s.drop (i+1)) (rd 0 ((s.take (i+1)).drop 1))
    omega
   rw [hsplit,aHk] at hle ⊢
   rw [aGz,aHl] at hle ⊢
   unfold dig at hd
   have hs:rdS (rd 0 ((s.take i).drop 1)) s[i]=10*rd 0 ((s.take i).drop 1)+(s[i].toNat - 48):=rfl
   rw [hs] at hle ⊢
   rw [hxe]
   generalize rd 0 ((s.take i).drop 1)=R at *
   generalize s[i]=c at *
   clear hs hsplit
   simp only [IntKind.wrap_i64]
   generalize c.toNat=d at *
   rw [aTV (x:=10*(R:Int)) (by omega) (by omega),aTV (x:=(d:Int)) (by omega) (by omega),aTW (x:=10*(R:Int)+(d:Int)) (by omega) (by omega)]
   omega
 ·
  have e:(cond (decide ((i:Int)<(s.length:Int))) (decide ((s.length:Int)≤20)) false)=false:=by
   by_cases a1:(i:Int)<s.length
   ·
    have a2:¬(s.length:Int)≤20:=by omega
    simp [a1,a2]
   ·
    simp [a1]
  simp only
  rw [e,cC]
  refine .inr ⟨x,rfl,hx,fun u hu1 hu2 hs=>?_⟩
  obtain ⟨hi,hxe⟩:=hu u hu1 hu2 hs
  have hl:=aIp 18 u (by omega)
  have hsl:s.length=(Lib.decDigits u).length+1:=by rw [hs,fU]
  have:i=s.length:=by omega
  rw [hxe,this,List.take_length]
  have h3:s.drop 1=Lib.decDigits u:=by rw [hs,aQC]
  rw [h3,(aN9 u).1]
theorem aGB {s:List UInt8} (h:s.length≤140737488355328):yP s=some (xE s):=by
 obtain ⟨x,hx,hok,hu⟩:=aJk h
 unfold yP
 rw [hx,aA]
 rcases aMB s with ⟨v,h1,h2,h3,h4⟩ | ⟨h3,h4⟩
 ·
  have hxv:x=v:=by
   have:=hu v.toNat (by omega) (by omega) (by rw [← h3,aMU h1])
   omega
  subst hxv
  rw [aH0 hok,h4,h3]
  have:¬x<1:=by omega
  simp [this,gd]
 ·
  rw [aH0 hok,h4]
  by_cases h5:x<1
  ·
   simp [h5,gd]
  ·
   have:=h3 x (by omega) hok.2
   simp [h5,gd,this]
theorem gdS {c b:Bool}:gd c (some b)=some (if c=true then b else default):=by unfold gd;split <;> rfl
theorem cA (a b:Bool):cond a (if (a==true)=true then b else default) false=(a&&b):=by cases a <;> rfl
theorem cO (a b:Bool):cond a true (if (a==false)=true then b else default)=(a||b):=by cases a <;> rfl
theorem cF (a b:Bool):cond a b false=(a&&b):=by cases a <;> rfl
theorem cT (a b:Bool):cond a true b=(a||b):=by cases a <;> rfl
theorem wV {n l h:Int}:oM n l h=some (inB n l h):=by unfold oM inB;rw [cF]
theorem aDT {n l h:Int}:rZ n l h=some (inB n l h):=by unfold rZ inB;rw [cF]
theorem aBf {s:List UInt8} (hs:s.length≤9223372036854775807):uO s=some (nA s):=(show uO s=uI s from rfl).trans (aIY hs)
def aFk (s:List UInt8):Bool:=decide (s=[])||(xE s).2
theorem aCE {s:List UInt8} (hs:s.length≤140737488355328):yB s=some (aFk s):=by
 unfold yB aFk
 rw [aEF hs,aA,cT]
theorem aEQ {s:List UInt8} (hs:s.length≤140737488355328):aBe s=some (aFk s):=by
 unfold aBe aFk
 rw [aGB hs,aA,cT]
def aLj (s:List UInt8):Bool:=decide (s=[])||((aBT s).2.2&&decide ((s.length:Int)≤4096))
theorem aGG {s:List UInt8} (hs:s.length≤140737488355328):yA s=some (aLj s):=by
 unfold yA aLj
 rw [aJY hs,aA,cT,cF]
def wO (k:Int):iP :=
 if k=1 then ⟨true,true,false,false,true,true,true,false,true⟩
 else if k=2 then ⟨true,true,false,false,false,false,true,false,false⟩
 else if k=5 then ⟨true,true,false,false,false,false,true,false,false⟩
 else if k=3 then ⟨true,false,false,false,false,false,false,false,false⟩
 else if k=4 then ⟨false,true,false,false,false,false,false,false,false⟩
 else if k=6 then ⟨false,false,false,true,false,false,false,false,false⟩
 else if k=7 then ⟨false,false,true,false,false,false,true,true,false⟩
 else if k=8 then ⟨false,false,true,false,false,true,false,false,false⟩
 else if k=9 then ⟨false,false,false,false,true,true,false,false,false⟩
 else if k=10 then ⟨false,false,true,false,true,false,true,false,false⟩
 else if k=12 then ⟨false,false,true,false,true,false,true,false,false⟩
 else if k=13 then ⟨false,false,true,false,true,false,true,false,false⟩
 else if k=11 then ⟨false,true,true,false,true,false,true,false,false⟩
 else if k=15 then ⟨true,true,false,false,true,true,true,false,false⟩
 else if k=16 then ⟨false,true,false,false,true,true,false,false,false⟩
 else if k=17 then ⟨false,false,false,false,false,true,false,false,false⟩
 else ⟨false,false,false,false,false,false,false,false,false⟩
theorem aGE (k:Int):xY k=some (wO k):=by
 unfold xY wO
 by_cases h1:k=1
 ·
  simp [h1]
 by_cases h2:k=2
 ·
  simp [h2]
 by_cases h5:k=5
 ·
  simp [h5]
 by_cases h3:k=3
 ·
  simp [h3]
 by_cases h4:k=4
 ·
  simp [h4]
 by_cases h6:k=6
 ·
  simp [h6]
 by_cases h7:k=7
 ·
  simp [h7]
 by_cases h8:k=8
 ·
  simp [h8]
 by_cases h9:k=9
 ·
  simp [h9]
 by_cases h10:k=10
 ·
  simp [h10]
 by_cases h12:k=12
 ·
  simp [h12]
 by_cases h13:k=13
 ·
  simp [h13]
 by_cases h11:k=11
 ·
  simp [h11]
 by_cases h15:k=15
 ·
  simp [h15]
 by_cases h16:k=16
 ·
  simp [h16]
 by_cases h17:k=17
 ·
  simp [h17]
 simp [h1,h2,h3,h4,h5,h6,h7,h8,h9,h10,h11,h12,h13,h15,h16,h17]
def aCx (q:dE) (u:iP):Bool :=
 (u.id_||decide (q.ID=[]))&&(u.name_||decide (q.Name=[]))&&(u.token_||decide (q.Token=0))&&(u.event_||decide (q.Event=0))&&(u.seq_||decide (q.Seq=0))&&(u.n_||decide (q.N=0))&&(u.data_||sN q.Data tL)&&(u.commands_||decide ((q.Commands.length:Int)=0))&&(u.parent_||decide (q.Parent=[]))&&aBE q.Opts yJ
theorem aIc {q:dE}{u:iP} (h:pD q):aAM q u=some (aCx q u):=by
 unfold aAM aCx
 have hd:eA q.Data:=h.2.2.2.2.2.2.2.2.2.2.1
 have ho:jP q.Opts:=h.2.2.2.2.2.2.2.2.2.2.2.1
 rw [show (aQ.mk 0 0 [] [] [])=tL from rfl,show (dS.mk [] 0 0 0 0 0 0 0 0 [])=yJ from rfl,aDd hd,aC5 ho]
 simp only [gdS,aA,cA,cT,cF]
 have e:∀ a b p c:Bool,(a&&(b||if (a==true&&b==false)=true then p else default)&&c)=(a&&(b||p)&&c):=fun a b p c=>by cases a <;> cases b <;> rfl
 generalize (u.id_||decide (q.ID=[]))=b1
 generalize (u.name_||decide (q.Name=[]))=b2
 generalize (u.token_||decide (q.Token=0))=b3
 generalize (u.event_||decide (q.Event=0))=b4
 generalize (u.seq_||decide (q.Seq=0))=b5
 generalize (u.n_||decide (q.N=0))=b6
 generalize sN q.Data tL=b7
 generalize (u.commands_||decide ((q.Commands.length:Int)=0))=b8
 generalize (u.parent_||decide (q.Parent=[]))=b9
 generalize aBE q.Opts yJ=b10
 generalize (b1&&b2&&b3&&b4&&b5&&b6)=a
 cases a <;> cases u.data_ <;> simp
def aMI (k n:Int):Bool :=
 if k=1 then inB n 0 2 else if k=8 then inB n 1 30 else if k=9 then inB n 1 1000 else if k=15 then (decide (n=20)||decide (n=21)||decide (n=22)) else if k=16 then (decide (n=24)||decide (n=25)) else if k=17 then decide (1≤n) else true
theorem aGF (q:dE):xZ q=some (aMI q.Kind q.N):=by
 unfold xZ aMI
 simp only [wV,aA,cT]
 simp only [dW]
 split
 ·
  rfl
 split
 ·
  rfl
 split
 ·
  rfl
 split
 ·
  rfl
 split
 ·
  rfl
 split <;> rfl
def aGy (q:dE) (u:iP):Bool :=
 if q.Kind=15 then (aFk q.ID&&decide ((q.Name.length:Int)≤4096)) else if q.Kind=16 then decide ((q.Name.length:Int)≤4096) else if q.Kind=4 then decide ((q.Name.length:Int)≤64) else if q.Kind=11 then nA q.Name else ((!u.id_||nA q.ID)&&(!u.name_||oY q.Name))
theorem aHq {q:dE}{u:iP} (h:pD q):zM q u=some (aGy q u):=by
 have h1:q.ID.length≤140737488355328:=iR h.2.2.2.2.1 (by decide)
 have h2:q.Name.length≤140737488355328:=iR h.2.2.2.2.2.1 (by decide)
 unfold zM aGy
 rw [aCE h1,aBf (by omega),aBf (by omega),wR]
 simp only [gdS,aA,cA,cT,cF,cO]
 simp only [dW]
 split
 ·
  rfl
 split
 ·
  rfl
 split
 ·
  rfl
 split
 ·
  rfl
 ·
  generalize u.id_=a
  generalize u.name_=b
  cases a <;> cases b <;> cases nA q.ID <;> rfl
theorem aOj {l:List bY} (h:aAc 240 lC l):gD l=some (l.any fun c=>!pC c):=by
 unfold gD iL
 obtain ⟨x,h1,h2⟩:=aA8 (body:=gE l) l (fun c=>!pC c) (fun i hi=>by
  unfold gE zW
  rw [dW,bH (by omega),kM hi,aA,aA4 (h.2.2 _ (dB hi)),aA,aA,vN hi h.1]
  cases pC l[i] <;> rfl) (by
  unfold gE
  rw [dW,bE (by omega)])
 rw [h1,aA,h2]
noncomputable def aEJ (q:dE):Bool :=
 inB q.Kind 1 17&&(inB q.Time 0 1099511627776&&(aCx q (wO q.Kind)&&(nU q.Data &&
  ((if q.Kind=14 then decide (q.Workflow=[]) else nA q.Workflow)&&(aFk q.Run&&((if q.Kind=14∨q.Kind=1 then decide (q.Run=[]) else true) &&
   ((!(wO q.Kind).token_||decide (1≤q.Token))&&((!(wO q.Kind).event_||inB q.Event 1 2000)&&((!(wO q.Kind).seq_||inB q.Seq (if q.Kind=1 then 0 else 1) 2000)&&(aLj q.Parent &&
    (decide (q.Commands.length≤200)&&(q.Commands.all pC&&(aMI q.Kind q.N&&aGy q (wO q.Kind))))))))))))))
theorem yR {q:dE} (h:pD q):wU q=some (aEJ q):=by
 have hd:eA q.Data:=h.2.2.2.2.2.2.2.2.2.2.1
 have hw:q.Workflow.length≤140737488355328:=iR h.2.2.1 (by decide)
 have hr:q.Run.length≤140737488355328:=iR h.2.2.2.1 (by decide)
 have hp:q.Parent.length≤140737488355328:=iR h.2.2.2.2.2.2.2.2.2.2.2.2.2 (by decide)
 have hc:=h.2.2.2.2.2.2.2.2.2.2.2.2.1
 unfold wU aEJ
 rw [aGE,aA]
 simp only [wV,aIc h,aAT hd,aBf (show q.Workflow.length≤9223372036854775807 by omega),aCE hr,aGG hp,aOj hc,aGF,aHq h,aA,gdS]
 generalize wO q.Kind=u
 generalize aCx q u=b3
 cases inB q.Kind 1 17
 ·
  simp
 cases inB q.Time 0 1099511627776
 ·
  simp
 cases b3
 ·
  simp
 cases nU q.Data
 ·
  simp
 simp only [dA,cC,dZ,eQ,dP,dJ,nH]
 generalize aGy q u=b9
 generalize aMI q.Kind q.N=b8
 generalize aLj q.Parent=b7
 generalize aFk q.Run=b6
 have e1:(q.Commands.any fun c=>!pC c)=!q.Commands.all pC:=by rw [eO];simp
 rw [e1]
 generalize q.Commands.all pC=c2
 have e2:decide ((200:Int)<(q.Commands.length:Int))=!decide (q.Commands.length≤200):=by rw [eO];simp;omega
 rw [e2]
 generalize decide (q.Commands.length≤200)=c1
 have e3:decide (q.Token<1)=!decide (1≤q.Token):=by rw [eO];simp
 rw [e3]
 generalize decide (1≤q.Token)=c3
 generalize inB q.Event 1 2000=c4
 generalize u.token_=u3
 generalize u.event_=u4
 generalize u.seq_=u5
 have tail:∀ c5:Bool,(cond (cond (cond (cond (cond u3 (!c3) false) true (cond u4 (!(if ((cond u3 (!c3) false)==false&&u4==true)=true then c4 else default)) false)) true (cond u5 (!(if ((cond (cond u3 (!c3) false) true (cond u4 (!(if ((cond u3 (!c3) false)==false&&u4==true)=true then c4 else default)) false))==false&&u5==true)=true then c5 else default)) false)) true
   (!(if ((cond (cond (cond u3 (!c3) false) true (cond u4 (!(if ((cond u3 (!c3) false)==false&&u4==true)=true then c4 else default)) false)) true (cond u5 (!(if ((cond (cond u3 (!c3) false) true (cond u4 (!(if ((cond u3 (!c3) false)==false&&u4==true)=true then c4 else default)) false))==false&&u5==true)=true then c5 else default)) false))==false)=true then b7 else default)))
   (some false) (cond (cond (!c1) true (if ((!c1)==false)=true then (!c2) else default)) (some false) (some (cond b8 (if (b8==true)=true then b9 else default) false))))=some ((!u3||c3)&&((!u4||c4)&&((!u5||c5)&&(b7&&(c1&&(c2&&(b8&&b9))))))):=by
  intro c5
  cases u3 <;> cases c3 <;> cases u4 <;> cases c4 <;> cases u5 <;> cases c5 <;> cases b7 <;> cases c1 <;> cases c2 <;> cases b8 <;> cases b9 <;> rfl
 by_cases h14:q.Kind=14
 ·
  have h1:¬q.Kind=1:=by omega
  simp only [h14,Int.reduceEq,cL,dR,dP,eU,true_or,aA,dJ,cC,dA]
  by_cases hW:q.Workflow=[]
  ·
   by_cases hR:q.Run=[]
   ·
    cases b6
    ·
     simp [hW,hR]
    ·
     simp only [hW,hR,cL,dA,eQ,dP,cC,dJ,dZ]
     exact tail _
   ·
    cases b6 <;> simp [hW,hR]
  ·
   simp [hW]
 ·
  simp only [h14,dR,eU,false_or,aA,dJ,cC,fZ,eQ,nH,dP]
  cases nA q.Workflow
  ·
   simp
  by_cases h1:q.Kind=1
  ·
   simp only [h1,cL,dP,dJ,aA]
   by_cases hR:q.Run=[]
   ·
    cases b6
    ·
     simp [hR]
    ·
     simp only [hR,cL,dA,eQ,dP,cC,dJ,dZ]
     exact tail _
   ·
    cases b6 <;> simp [hR]
  ·
   simp only [h1,dR,eU,cC,aA]
   cases b6
   ·
    simp
   ·
    simp only [dA,eQ,dP,cC,dJ,dZ]
    exact tail _
theorem cS (c x:Bool):cond c (some false) (some x)=some (!c&&x):=by cases c <;> rfl
theorem aHs {a:List bY}:oL a []=some (decide ((a.length:Int)=0)):=by
 unfold oL
 by_cases h:a=[]
 ·
  subst h
  rw [pY (r:=.go ()) (by unfold qC;rfl)]
  rfl
 ·
  have:¬(a.length:Int)=0:=fun hh=>h (eS (by omega))
  simp [this,h]
theorem aGI {a:List bY} (h:aAc 240 lC a):oL a a=some true:=by
 unfold oL
 rw [tU rfl,dA,cC,oT a.length (fun _=>true) false (fun i hi=>?_) ?_]
 ·
  simp [Fl.next]
 ·
  unfold qC
  rw [dW,bE (by omega)]
 ·
  unfold qC
  have hc:=h.2.2 _ (dB hi)
  rw [dW,bH (by omega),kM hi,aA,aA,aGC hc.2.2.2.2.2.1 hc.2.2.2.2.2.2,vN hi h.1]
  simp [aBi,aDP]
theorem aEP {q:dE} (h:pD q):uN q q=some true:=by
 have hd:eA q.Data:=h.2.2.2.2.2.2.2.2.2.2.1
 have ho:jP q.Opts:=h.2.2.2.2.2.2.2.2.2.2.2.1
 have hc:=h.2.2.2.2.2.2.2.2.2.2.2.2.1
 unfold uN
 rw [aCD hd,vH ho,aGI hc,aBi,aDP]
 simp [gd]
theorem aPS {a:dE}{k:Int} (hd:eA a.Data) (ho:jP a.Opts):uN a ⟨k,0,[],[],[],[],0,0,0,0,tL,yJ,[],[]⟩=some (decide (a.Kind=k)&&(decide (a.Time=0)&&(decide (a.Workflow=[])&&(decide (a.Run=[])&&(decide (a.ID=[])&&(decide (a.Name=[])&&(decide (a.Parent=[]) &&
  (decide (a.Token=0)&&(decide (a.Event=0)&&(decide (a.Seq=0)&&(decide (a.N=0)&&(sN a.Data tL&&(aBE a.Opts yJ&&decide ((a.Commands.length:Int)=0)))))))))))))):=by
 unfold uN
 simp only
 rw [aCD hd,vH ho,aHs]
 simp only [gdS,aA,cA,cT,cF,cS,Bool.not_or,Bool.not_not,Bool.and_assoc]
 have e:∀ x y z:Bool,(x&&((if (x==true)=true then y else default)&&(if ((x&&if (x==true)=true then y else default)==true)=true then z else default)))=(x&&(y&&z)):=fun x y z=>by cases x <;> cases y <;> cases z <;> rfl
 rw [e]
def aKv (q:dE):dE :=
 ⟨q.Kind,0,if q.Kind=14 then q.Workflow else [],if q.Kind=14∨q.Kind=1 then q.Run else [],if (wO q.Kind).id_ then [] else q.ID,if (wO q.Kind).name_ then [] else q.Name,if (wO q.Kind).token_ then 0 else q.Token,if (wO q.Kind).event_ then 0 else q.Event,
  if (wO q.Kind).seq_ then 0 else q.Seq,if (wO q.Kind).n_ then 0 else q.N,if (wO q.Kind).data_ then tL else q.Data,q.Opts,if (wO q.Kind).commands_ then [] else q.Commands,if (wO q.Kind).parent_ then [] else q.Parent⟩
theorem aLm (q:dE):aCC q=some (aKv q):=by
 unfold aCC aKv wO
 obtain ⟨k,tm,wf,rn,id,nm,tk,ev,sq,n,d,o,cs,pr⟩:=q
 simp only
 by_cases h1:k=1
 ·
  subst h1;rfl
 by_cases h2:k=2
 ·
  subst h2;rfl
 by_cases h5:k=5
 ·
  subst h5;rfl
 by_cases h3:k=3
 ·
  subst h3;rfl
 by_cases h4:k=4
 ·
  subst h4;rfl
 by_cases h6:k=6
 ·
  subst h6;rfl
 by_cases h7:k=7
 ·
  subst h7;rfl
 by_cases h8:k=8
 ·
  subst h8;rfl
 by_cases h9:k=9
 ·
  subst h9;rfl
 by_cases h10:k=10
 ·
  subst h10;rfl
 by_cases h12:k=12
 ·
  subst h12;rfl
 by_cases h13:k=13
 ·
  subst h13;rfl
 by_cases h11:k=11
 ·
  subst h11;rfl
 by_cases h14:k=14
 ·
  subst h14;rfl
 by_cases h15:k=15
 ·
  subst h15;rfl
 by_cases h16:k=16
 ·
  subst h16;rfl
 by_cases h17:k=17
 ·
  subst h17;rfl
 simp [h1,h2,h3,h4,h5,h6,h7,h8,h9,h10,h11,h12,h13,h14,h15,h16,h17,Fl.next]
theorem dI {α:Type} [DecidableEq α] {u:Bool}{x z:α}:decide ((if u=true then z else x)=z)=(u||decide (x=z)):=by cases u <;> simp
theorem dV {u:Bool}{x:aQ}:sN (if u=true then tL else x) tL=(u||sN x tL):=by cases u <;> simp [aBi]
theorem dC {u:Bool}{x:List bY}:decide (((if u=true then [] else x).length:Int)=0)=(u||decide ((x.length:Int)=0)):=by cases u <;> simp
theorem aPo {q:dE} (h:pD q):uN (aKv q) ⟨q.Kind,0,[],[],[],[],0,0,0,0,tL,yJ,[],[]⟩=some (aCx q (wO q.Kind)&&((if q.Kind=14 then decide (q.Workflow=[]) else true)&&(if q.Kind=14∨q.Kind=1 then decide (q.Run=[]) else true))):=by
 have hd:eA q.Data:=h.2.2.2.2.2.2.2.2.2.2.1
 have ho:jP q.Opts:=h.2.2.2.2.2.2.2.2.2.2.2.1
 rw [aPS (a:=aKv q) (by unfold aKv;simp only;split;exact aEH;exact hd) ho]
 unfold aKv aCx
 simp only [dI,dV,dC,cL,dZ]
 have e1:decide ((if q.Kind=14 then q.Workflow else [])=[])=(if q.Kind=14 then decide (q.Workflow=[]) else true):=by split <;> simp
 have e2:decide ((if q.Kind=14∨q.Kind=1 then q.Run else [])=[])=(if q.Kind=14∨q.Kind=1 then decide (q.Run=[]) else true):=by split <;> simp
 rw [e1,e2]
 congr 1
 ac_rfl
theorem aFN {α τ:Type} (l:List α) (p:α→Bool) (b:τ) {body:Int→Option (dU Int (Fl τ Unit))} (h:∀ (i:Nat) (hi:i<l.length),body (i:Int)=some (if p l[i] then .next ((i+1:Nat):Int) else .out (.done b)))
  (hout:body (l.length:Int)=some (.out (.go ()))):fK body (0:Int)=some (if l.all p then .go () else .done b):=by
 refine aIv (fun s=>∃ i:Nat,s=(i:Int)∧i≤l.length∧∀ (j:Nat) (hj:j<l.length),j<i→p l[j]=true) (fun s=>l.length - s.toNat) (fun _=>(if l.all p then Fl.go () else Fl.done b:Fl τ Unit)) ?_ _ ⟨0,rfl,by omega,by omega⟩
 rintro s ⟨i,rfl,hi,hp⟩
 by_cases hlt:i<l.length
 ·
  rw [h i hlt]
  by_cases hpi:p l[i]=true
  ·
   rw [bH hpi]
   exact .inl ⟨_,rfl,⟨i+1,rfl,hlt,fun j hj hji=>by rcases Nat.lt_succ_iff_lt_or_eq.1 hji with h1 | rfl;exact hp j hj h1;exact hpi⟩,by simp;omega,rfl⟩
  ·
   rw [bE hpi,bE (fun ha=>hpi (cR.1 ha _ (dB hlt)))]
   exact .inr rfl
 ·
  obtain rfl:i=l.length:=by omega
  rw [hout,bH (cR.2 fun x hx=>by obtain ⟨j,hj,rfl⟩:=rI.1 hx;exact hp j hj hj)]
  exact .inr rfl
theorem aHa {l:List bY} (h:aAc 240 lC l):rY l=some (l.all pC&&decide (l.length≤200)):=by
 unfold rY
 rw [aFN l pC false (fun i hi=>?_) ?_,aA]
 ·
  have e:decide ((l.length:Int)≤200)=decide (l.length≤200):=by rw [eO];simp;omega
  rw [e]
  cases l.all pC <;> simp [Fl.next]
 ·
  unfold sE
  rw [dW,bE (by omega)]
 ·
  unfold sE
  rw [dW,bH (by omega),kM hi,aA,aDa (h.2.2 _ (dB hi)),aA,vN hi h.1]
  cases pC l[i] <;> rfl
noncomputable def aRl (q:dE):Bool :=
 if q.Kind=1 then (nA q.ID&&(oY q.Name&&(inB q.N 0 2&&(aLj q.Parent&&inB q.Seq 0 2000))))
 else if q.Kind=2∨q.Kind=5 then (nA q.ID&&oY q.Name)
 else if q.Kind=3 then nA q.ID
 else if q.Kind=4 then decide ((q.Name.length:Int)≤64)
 else if q.Kind=6 then inB q.Event 1 2000
 else if q.Kind=7 then (decide (1≤q.Token)&&(q.Commands.all pC&&decide (q.Commands.length≤200)))
 else if q.Kind=8 then (decide (1≤q.Token)&&inB q.N 1 30)
 else if q.Kind=9 then (inB q.Seq 1 2000&&inB q.N 1 1000)
 else if q.Kind=10∨q.Kind=12∨q.Kind=13 then (decide (1≤q.Token)&&inB q.Seq 1 2000)
 else if q.Kind=11 then (decide (1≤q.Token)&&(inB q.Seq 1 2000&&nA q.Name))
 else if q.Kind=15 then (inB q.Seq 1 2000&&(inB q.N 20 22&&(decide ((q.Name.length:Int)≤4096)&&aFk q.ID)))
 else if q.Kind=16 then (inB q.Seq 1 2000&&(inB q.N 24 25&&decide ((q.Name.length:Int)≤4096)))
 else decide (1≤q.N)
noncomputable def aIE (q:dE):Bool :=
 inB q.Kind 1 17&&(inB q.Time 0 1099511627776&&((aCx q (wO q.Kind)&&((if q.Kind=14 then decide (q.Workflow=[]) else true)&&(if q.Kind=14∨q.Kind=1 then decide (q.Run=[]) else true)))&&(nU q.Data&&(aFk q.Run&&(if q.Kind=14 then true else (nA q.Workflow&&aRl q))))))
theorem aT6 {k a b:Int}:(cond (decide (k=a)) (some (decide (k=a))) (some (decide (k=b))))=some (decide (k=a∨k=b)):=by
 by_cases h:k=a
 ·
  rw [tU h];simp [h]
 ·
  rw [lZ h];simp [h]
theorem aUS {k a b c:Int}:(cond (decide (k=a)) (some (decide (k=a))) (cond (decide (k=b)) (some (decide (k=b))) (some (decide (k=c)))))=some (decide (k=a∨k=b∨k=c)):=by
 by_cases h:k=a
 ·
  rw [tU h];simp [h]
 ·
  rw [lZ h,aT6];simp [h]
theorem aJ3 {q:dE} (h:pD q):aBI q=some (aIE q):=by
 have hd:eA q.Data:=h.2.2.2.2.2.2.2.2.2.2.1
 have hw:q.Workflow.length≤140737488355328:=iR h.2.2.1 (by decide)
 have hr:q.Run.length≤140737488355328:=iR h.2.2.2.1 (by decide)
 have hi:q.ID.length≤140737488355328:=iR h.2.2.2.2.1 (by decide)
 have hp:q.Parent.length≤140737488355328:=iR h.2.2.2.2.2.2.2.2.2.2.2.2.2 (by decide)
 have hc:=h.2.2.2.2.2.2.2.2.2.2.2.2.1
 unfold aBI aIE
 rw [show (aQ.mk 0 0 [] [] [])=tL from rfl,show (dS.mk [] 0 0 0 0 0 0 0 0 [])=yJ from rfl,aLm]
 simp only [aDT,zL hd,aEQ hr,aEQ hi,aH1,wS,aMR hp,aHa hc,aT6,aUS]
 cases inB q.Kind 1 17
 ·
  rfl
 cases inB q.Time 0 1099511627776
 ·
  rfl
 simp only [aA,dA,cC,eQ,dZ]
 have g1:∀ {α:Type} [Inhabited α] (m:Option α),gd true m=m:=fun m=>rfl
 rw [g1,aA]
 simp only [dA,cC,eQ]
 rw [g1,aA,g1,aPo h,aA]
 generalize (aCx q (wO q.Kind)&&((if q.Kind=14 then decide (q.Workflow=[]) else true)&&(if q.Kind=14∨q.Kind=1 then decide (q.Run=[]) else true)))=b
 cases b
 ·
  rfl
 cases nU q.Data
 ·
  rfl
 cases aFk q.Run
 ·
  rfl
 simp only [gdS,aA,dA,cC,eQ,dP,dZ]
 rw [dW]
 by_cases h14:q.Kind=14
 ·
  rw [bH h14,bH h14]
 rw [bE h14,bE h14]
 cases nA q.Workflow
 ·
  rfl
 simp only [dA,cC,dZ]
 unfold aRl aLj
 simp only [cA,cT,cF,Bool.and_assoc]
 simp only [dW]
 generalize nA q.ID=a1
 generalize oY q.Name=a2
 generalize inB q.N 0 2=a3
 generalize (decide (q.Parent=[])||(aBT q.Parent).2.2&&decide ((q.Parent.length:Int)≤4096))=a4
 generalize inB q.Seq 0 2000=a5
 generalize decide (1≤q.Token)=a6
 generalize (q.Commands.all pC&&decide (q.Commands.length≤200))=a7
 generalize inB q.N 1 30=a8
 generalize inB q.Seq 1 2000=a9
 generalize inB q.N 1 1000=b1
 generalize nA q.Name=b2
 generalize inB q.N 20 22=b3
 generalize decide ((q.Name.length:Int)≤4096)=b4
 generalize aFk q.ID=b5
 generalize inB q.N 24 25=b6
 by_cases h1:q.Kind=1
 ·
  rw [bH h1,bH h1];cases a1 <;> cases a2 <;> cases a3 <;> cases a4 <;> cases a5 <;> rfl
 rw [bE h1,bE h1]
 by_cases h2:q.Kind=2∨q.Kind=5
 ·
  rw [bH h2,bH h2]
 rw [bE h2,bE h2]
 by_cases h3:q.Kind=3
 ·
  rw [bH h3,bH h3]
 rw [bE h3,bE h3]
 by_cases h4:q.Kind=4
 ·
  rw [bH h4,bH h4]
 rw [bE h4,bE h4]
 by_cases h6:q.Kind=6
 ·
  rw [bH h6,bH h6]
 rw [bE h6,bE h6]
 by_cases h7:q.Kind=7
 ·
  rw [bH h7,bH h7];cases a6 <;> rfl
 rw [bE h7,bE h7]
 by_cases h8:q.Kind=8
 ·
  rw [bH h8,bH h8];cases a6 <;> rfl
 rw [bE h8,bE h8]
 by_cases h9:q.Kind=9
 ·
  rw [bH h9,bH h9];cases a9 <;> rfl
 rw [bE h9,bE h9]
 have e10:(if q.Kind=10 then some (decide (q.Kind=10)) else some (decide (q.Kind=12∨q.Kind=13)))=some (decide (q.Kind=10∨q.Kind=12∨q.Kind=13)):=by
  by_cases h:q.Kind=10 <;> simp [h]
 rw [e10,aA,dW]
 by_cases h10:q.Kind=10∨q.Kind=12∨q.Kind=13
 ·
  rw [bH h10,bH h10]
 rw [bE h10,bE h10]
 by_cases h11:q.Kind=11
 ·
  rw [bH h11,bH h11];cases a6 <;> cases a9 <;> rfl
 rw [bE h11,bE h11]
 by_cases h15:q.Kind=15
 ·
  rw [bH h15,bH h15];cases a9 <;> cases b3 <;> cases b4 <;> rfl
 rw [bE h15,bE h15]
 by_cases h16:q.Kind=16
 ·
  rw [bH h16,bH h16];cases a9 <;> rfl
 rw [bE h16,bE h16]
theorem aTm {n:Int}:(decide (n=20)||decide (n=21)||decide (n=22))=inB n 20 22:=by unfold inB;rw [eO];simp;omega
theorem aTn {n:Int}:(decide (n=24)||decide (n=25))=inB n 24 25:=by unfold inB;rw [eO];simp;omega
theorem aPM (q:dE):aEJ q=aIE q:=by
 unfold aEJ aIE
 cases hK:inB q.Kind 1 17
 ·
  rfl
 cases inB q.Time 0 1099511627776
 ·
  rfl
 cases hb:aCx q (wO q.Kind)
 ·
  rfl
 cases nU q.Data
 ·
  simp
 simp only [dZ]
 have hP:(wO q.Kind).parent_=false→aLj q.Parent=true:=fun hu=>by
  unfold aCx at hb
  rw [hu] at hb
  simp only [bZ,mK,dT] at hb
  unfold aLj
  simp [hb.1.2]
 have hC:(wO q.Kind).commands_=false→q.Commands.all pC=true∧decide (q.Commands.length≤200)=true:=fun hu=>by
  unfold aCx at hb
  rw [hu] at hb
  simp only [bZ,mK,dT] at hb
  have:q.Commands=[]:=eS (by omega)
  simp [this]
 clear hb
 unfold inB at hK
 simp only [bZ,dT] at hK
 unfold aRl aMI aGy
 rw [aTm,aTn]
 generalize q.Commands.all pC=c1 at *
 generalize decide (q.Commands.length≤200)=c2 at *
 generalize aLj q.Parent=c3 at *
 generalize aFk q.Run=c4
 generalize aFk q.ID=c5
 generalize nA q.Workflow=c6
 generalize nA q.ID=c7
 generalize nA q.Name=c8
 generalize oY q.Name=c9
 generalize decide (q.Workflow=[])=d1
 generalize decide (q.Run=[])=d2
 generalize decide (1≤q.Token)=d3
 generalize inB q.Event 1 2000=d4
 generalize decide ((q.Name.length:Int)≤4096)=d5
 generalize decide ((q.Name.length:Int)≤64)=d6
 generalize q.Kind=k at *
 have hk:k=1∨k=2∨k=3∨k=4∨k=5∨k=6∨k=7∨k=8∨k=9∨k=10∨k=11∨k=12∨k=13∨k=14∨k=15∨k=16∨k=17:=by omega
 rcases hk with rfl | rfl | rfl | rfl | rfl | rfl | rfl | rfl | rfl | rfl | rfl | rfl | rfl | rfl | rfl | rfl | rfl <;> simp [wO] at hP hC ⊢ <;> simp [hP,hC] <;> ac_rfl
theorem aEC {xs:List UInt8} (h:xs.length≤140737488355328):lE xs=some xs:=by
 rw [lE,wW (by simpa using h)];simp
theorem aE8 {b:List UInt8}{n:Int} (hb:b.length≤10000000000000) (h1:-9223372036854775808≤n) (h2:n≤9223372036854775807):iZ b n=some (b++aAW (zz n)):=by
 have hv:=aJB (aO7 h1 h2)
 unfold iZ
 rw [aEC (by omega),aA,sh1,aU0,aOp h1 h2]
 obtain ⟨r,hr,u,hu,hlt,he⟩:=aDL (body:=aA2) (fun s=>∃ u:Nat,s.2=(u:Int)∧u<18446744073709551616∧s.1++aAW u=b++aAW (zz n)) (fun s=>s.2.toNat)
  (fun r=>∃ u:Nat,r.2=(u:Int)∧u<128∧r.1++aAW u=b++aAW (zz n)) (fun s ⟨u,hu,hlt,he⟩=>by
   have hlen:s.1.length+(aAW u).length=b.length+(aAW (zz n)).length:=by simpa using congrArg List.length he
   unfold aA2
   rw [hu,dW]
   by_cases h:u<128
   ·
    rw [bE (by omega)]
    exact .inr ⟨_,rfl,u,rfl,h,he⟩
   ·
    rw [bH (by omega),aUC,aIO (by omega),aA,wW (by simp;omega),aA,sh7,aU1]
    refine .inl ⟨_,rfl,⟨u / 128,rfl,by omega,?_⟩,by simp;omega⟩
    rw [← he,aLH h,iU,List.singleton_append]) (b,(zz n:Nat)) ⟨zz n,rfl,aO7 h1 h2,rfl⟩
 have hlen:r.1.length+(aAW u).length=b.length+(aAW (zz n)).length:=by simpa using congrArg List.length he
 rw [hr,aA,hu,aKx (aSI (by omega)),aA,wW (by simp;omega),aA,← aIG hlt,he]
theorem aIn {b s:List UInt8} (hb:b.length≤10000000000000) (hs:s.length≤10000000000000):mH b s=some (b++aAW (zz s.length)++s):=by
 have hv:=aJB (aO7 (n:=(s.length:Int)) (by omega) (by omega))
 unfold mH
 rw [aE8 (by omega) (by omega) (by omega),aA,wW (by simp;omega),aA]

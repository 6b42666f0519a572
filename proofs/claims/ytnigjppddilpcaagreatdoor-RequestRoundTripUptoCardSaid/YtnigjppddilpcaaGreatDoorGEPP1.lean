/- Plain laws: what the functions compute, with no program in sight. -/
import Derived.Test.YtnigjppddilpcaaGreatDoorGEPP0
import Derived.Test.YtnigjppddilpcaaGreatDoorGEF2
import Derived.Test.YtnigjppddilpcaaGreatDoorGEF3
import Derived.Test.YtnigjppddilpcaaGreatDoorGEF9
import Derived.Test.YtnigjppddilpcaaGreatDoorLib
import Derived.Test.YtnigjppddilpcaaGreatDoorGEF13
import Derived.Test.YtnigjppddilpcaaGreatDoorGEF15
import Derived.Test.YtnigjppddilpcaaGreatDoorPk2
import Derived.Test.YtnigjppddilpcaaGreatDoorGEF5
import Derived.Test.YtnigjppddilpcaaGreatDoorGEF10
import Derived.Test.YtnigjppddilpcaaGreatDoorGEF11
import Derived.Test.YtnigjppddilpcaaGreatDoorGEF14
import Derived.Test.YtnigjppddilpcaaGreatDoorGEF16
namespace Go.Proofs.YtnigjppddilpcaaGreatDoor
open Go Abs
set_option linter.unusedSimpArgs false
set_option linter.unusedVariables false
def qH:aC:=⟨0,0,[],[],[]⟩
def sN:bL:=⟨[],0,0,0,0,0,0,0,0,[]⟩
theorem aI0:bR qH:=by
 refine (eD _).2 ⟨?_,?_,?_,?_,?_⟩ <;> simp [qH,lV,vC,wF]
def gG (k:Int):fQ :=
 if k=1 then ⟨true,true,false,false,true,true⟩
 else if k=2 then ⟨true,false,false,false,false,false⟩
 else if k=3 then ⟨true,false,false,true,false,false⟩
 else if k=4 then ⟨true,false,false,false,false,false⟩
 else if k=5 then ⟨true,true,true,true,true,false⟩
 else if k=6 then ⟨true,true,true,false,true,false⟩
 else if k=7 then ⟨false,true,false,true,true,false⟩
 else if k=8 then ⟨false,true,true,false,true,false⟩
 else if k=9 then ⟨false,false,true,true,true,false⟩
 else if k=12 then ⟨false,true,false,false,true,false⟩
 else ⟨false,false,false,false,true,false⟩
theorem aLT (k:Int):oP k=some (gG k):=by
 unfold oP gG
 by_cases h1:k=1
 ·
  simp [h1]
 by_cases h2:k=2
 ·
  simp [h2]
 by_cases h3:k=3
 ·
  simp [h3]
 by_cases h4:k=4
 ·
  simp [h4]
 by_cases h5:k=5
 ·
  simp [h5]
 by_cases h6:k=6
 ·
  simp [h6]
 by_cases h7:k=7
 ·
  simp [h7]
 by_cases h8:k=8
 ·
  simp [h8]
 by_cases h9:k=9
 ·
  simp [h9]
 by_cases h12:k=12
 ·
  simp [h12]
 simp [h1,h2,h3,h4,h5,h6,h7,h8,h9,h12]
def aBK (c:aP) (u:fQ):Bool :=
 (u.seq_||decide (c.Seq=0))&&(u.name_||decide (c.Name=[]))&&(u.key_||decide (c.Key=[]))&&(u.n_||decide (c.N=0))&&(u.data_||oM c.Data qH)&&(u.opts_||yI c.Opts sN)
theorem aOc {c:aP}{u:fQ} (h:eP c):rJ c u=some (aBK c u):=by
 unfold rJ aBK
 have hd:bR c.Data:=h.2.2.2.2.2.1
 have ho:eU c.Opts:=h.2.2.2.2.2.2
 rw [show (aC.mk 0 0 [] [] [])=qH from rfl,show (bL.mk [] 0 0 0 0 0 0 0 0 [])=sN from rfl,aBU hd,aBH ho]
 cases u.seq_ <;> cases u.name_ <;> cases u.key_ <;> cases u.n_ <;> cases decide (c.Seq=0) <;> cases decide (c.Name=[]) <;> cases decide (c.Key=[]) <;> cases decide (c.N=0) <;> first | rfl | (cases u.data_ <;> cases u.opts_ <;> cases oM c.Data qH <;> rfl)
def aL7 (c:aP):Bool :=
 if c.Kind=3 then inB c.N 1 1099511627776
 else if c.Kind=5 then inB c.N 0 2
 else if c.Kind=9 then inB c.N 0 1
 else if c.Kind=7 then decide (c.N=-1)||(inB c.N 0 2147483647&&decide (c.Data.Kind=0))
 else if c.Kind=10 then decide (c.Data.Kind=5)
 else if c.Kind=14 then aFo c.Data
 else true
theorem aL8 {c:aP} (h:eP c):oQ c=some (aL7 c):=by
 unfold oQ aL7
 rw [aNg h.2.2.2.2.2.1]
 simp only [mF,bE,Option.bind_some]
 by_cases h3:c.Kind=3
 ·
  simp only [h3,if_true]
 by_cases h5:c.Kind=5
 ·
  simp only [h5,if_true,Int.reduceEq,if_false]
 by_cases h9:c.Kind=9
 ·
  simp only [h9,if_true,Int.reduceEq,if_false]
 by_cases h7:c.Kind=7
 ·
  simp only [h7,if_true,Int.reduceEq,if_false]
  by_cases hn:c.N=-1
  ·
   simp [hn,gd]
  ·
   cases inB c.N 0 2147483647 <;> by_cases hk:c.Data.Kind=0 <;> simp [hn,hk,gd]
 by_cases h10:c.Kind=10
 ·
  simp only [h10,if_true,Int.reduceEq,if_false]
 by_cases h14:c.Kind=14
 ·
  simp only [h14,if_true,Int.reduceEq,if_false]
 simp only [h3,h5,h9,h7,h10,h14,if_false]
noncomputable def iK (c:aP):Bool :=
 inB c.Kind 1 14&&aBK c (gG c.Kind)&&nA c.Data&&mH c.Opts&&(!(gG c.Kind).seq_||inB c.Seq 1 2000)&&(!(gG c.Kind).key_||jH c.Key)
  && (!(gG c.Kind).name_||(if c.Kind=12 then !iW c.Name else lQ c.Name))&&aL7 c
theorem pI {c:aP} (h:eP c):mE c=some (iK c):=by
 have hd:bR c.Data:=h.2.2.2.2.2.1
 have ho:eU c.Opts:=h.2.2.2.2.2.2
 have hk:c.Key.length≤9223372036854775807:=Nat.le_trans h.2.2.2.1 (by decide)
 unfold mE iK
 rw [aLT,Option.bind_some]
 simp only [aOc h,aBe hd,vS ho,aII hk,tG,aL8 h,mF,Option.bind_some]
 generalize gG c.Kind=u
 obtain ⟨useq,uname,ukey,un,udata,uopts⟩:=u
 simp only
 generalize aBK c _=b
 cases inB c.Kind 1 14
 ·
  simp [gd]
 cases b
 ·
  simp [gd]
 cases nA c.Data
 ·
  simp [gd]
 cases mH c.Opts
 ·
  simp [gd]
 simp only [Bool.not_true,cond_false,beq_self_eq_true,gd,if_true,Option.bind_some,Bool.true_and]
 have hl:decide ((4096:Int)<(c.Name.length:Int))=iW c.Name:=rfl
 rw [hl]
 by_cases h12:c.Kind=12
 ·
  simp only [h12,decide_true,Bool.not_true,cond_true,cond_false,if_true]
  cases useq <;> cases ukey <;> cases uname <;> cases inB c.Seq 1 2000 <;> cases jH c.Key <;> cases iW c.Name <;> cases aL7 c <;> rfl
 ·
  simp only [h12,decide_false,Bool.not_false,cond_true,cond_false,if_false]
  cases useq <;> cases ukey <;> cases uname <;> cases inB c.Seq 1 2000 <;> cases jH c.Key <;> cases lQ c.Name <;> cases aL7 c <;> rfl
theorem aI8:mH sN=true:=by decide
theorem aFI {p:bL} (h:yI p sN=true):p=sN:=by
 unfold yI at h
 simp only [Bool.and_eq_true,decide_eq_true_eq] at h
 obtain ⟨⟨⟨⟨⟨⟨⟨⟨⟨h1,h2⟩,h3⟩,h4⟩,h5⟩,h6⟩,h7⟩,h8⟩,h9⟩,h10⟩:=h
 cases p;simp_all [sN]
theorem aAk (v:aC):oM v v=true:=(aMx (rM v) v v (Nat.le_refl _)).2 rfl
theorem aB9 (p:bL):yI p p=true:=by simp [yI]
theorem aCR {a b:aP} (hd:bR a.Data) (ho:eU a.Opts):qT a b=some (decide (a.Kind=b.Kind)&&decide (a.Seq=b.Seq)&&decide (a.Name=b.Name)&&decide (a.Key=b.Key)&&decide (a.N=b.N)&&oM a.Data b.Data&&yI a.Opts b.Opts):=by
 unfold qT
 rw [aCg hd,tB ho]
 cases decide (a.Kind=b.Kind) <;> cases decide (a.Seq=b.Seq) <;> cases decide (a.Name=b.Name) <;> cases decide (a.Key=b.Key) <;> cases decide (a.N=b.N) <;> first | rfl | (cases oM a.Data b.Data <;> rfl)
def aGZ (c:aP):aP :=
 ⟨c.Kind,if (gG c.Kind).seq_ then 0 else c.Seq,if (gG c.Kind).name_ then [] else c.Name,if (gG c.Kind).key_ then [] else c.Key,if (gG c.Kind).n_ then 0 else c.N,
  if (gG c.Kind).data_ then qH else c.Data,if (gG c.Kind).opts_ then sN else c.Opts⟩
theorem aKz (c:aP):aCd c=some (aGZ c):=by
 unfold aCd aGZ gG
 obtain ⟨k,sq,nm,ky,n,d,o⟩:=c
 simp only
 by_cases h1:k=1
 ·
  subst h1;rfl
 by_cases h2:k=2
 ·
  subst h2;rfl
 by_cases h3:k=3
 ·
  subst h3;rfl
 by_cases h4:k=4
 ·
  subst h4;rfl
 by_cases h5:k=5
 ·
  subst h5;rfl
 by_cases h6:k=6
 ·
  subst h6;rfl
 by_cases h7:k=7
 ·
  subst h7;rfl
 by_cases h8:k=8
 ·
  subst h8;rfl
 by_cases h9:k=9
 ·
  subst h9;rfl
 by_cases h12:k=12
 ·
  subst h12;rfl
 simp [h1,h2,h3,h4,h5,h6,h7,h8,h9,h12,qH]
theorem xZ {c:aP} (h:eP c):uB c=some (iK c):=by
 have hd:bR c.Data:=h.2.2.2.2.2.1
 have ho:eU c.Opts:=h.2.2.2.2.2.2
 unfold uB iK
 rw [aKz,aBR hd,tL,aEi,rW ho,aJf hd]
 have hb:qT (aGZ c) ⟨c.Kind,0,[],[],0,qH,sN⟩=some (aBK c (gG c.Kind)):=by
  rw [aCR (by unfold aGZ;simp only;split;exact aI0;exact hd) (by
   unfold aGZ;simp only;split
   ·
    refine ⟨?_,?_,?_,?_,?_,?_,?_,?_,?_,?_⟩ <;> simp [sN,lV,vC,wF]
   ·
    exact ho)]
  unfold aGZ aBK
  generalize gG c.Kind=u
  obtain ⟨useq,uname,ukey,un,udata,uopts⟩:=u
  have z1:=aAk qH
  have z2:=aB9 sN
  cases useq <;> cases uname <;> cases ukey <;> cases un <;> cases udata <;> cases uopts <;> simp [z1,z2]
 simp only [zT,Option.bind_some]
 cases hin:inB c.Kind 1 14
 ·
  simp [gd]
 rw [show (aP.mk c.Kind 0 [] [] 0 ⟨0,0,[],[],[]⟩ ⟨[],0,0,0,0,0,0,0,0,[]⟩)=⟨c.Kind,0,[],[],0,qH,sN⟩ from rfl]
 simp only [Bool.not_true,beq_self_eq_true,gd,if_true,Option.bind_some,hb,cond_false,Bool.true_and]
 cases hbb:aBK c (gG c.Kind)
 ·
  simp [gd]
 simp only [Bool.not_true,beq_self_eq_true,gd,if_true,Option.bind_some,cond_false,Bool.true_and]
 cases nA c.Data
 ·
  simp
 simp only [Bool.not_true,cond_false,Bool.true_and]
 have hop:(gG c.Kind).opts_=true∨mH c.Opts=true:=by
  cases hu:(gG c.Kind).opts_
  ·
   refine .inr ?_
   unfold aBK at hbb
   rw [hu] at hbb
   simp only [Bool.and_eq_true,Bool.false_or] at hbb
   rw [aFI hbb.2,aI8]
  ·
   exact .inl rfl
 have hl:decide ((c.Name.length:Int)≤4096)=!iW c.Name:=by unfold iW;rw [Bool.eq_iff_iff];simp
 rw [hl]
 unfold aL7
 clear hb hbb hin h hd ho hl
 obtain ⟨k,sq,nm,ky,n,d,o⟩:=c
 simp only at hop ⊢
 generalize inB sq 1 2000=b1
 generalize lQ nm=b2
 generalize jH ky=b3
 generalize mH o=b4 at *
 generalize iW nm=b5
 generalize aFo d=b6
 by_cases h1:k=1
 ·
  subst h1
  cases b1 <;> cases b2 <;> cases b4 <;> rfl
 by_cases h2:k=2
 ·
  subst h2
  obtain rfl:b4=true:=by simpa [gG] using hop
  cases b1 <;> rfl
 by_cases h3:k=3
 ·
  subst h3
  obtain rfl:b4=true:=by simpa [gG] using hop
  cases b1 <;> simp [gG]
 by_cases h4:k=4
 ·
  subst h4
  obtain rfl:b4=true:=by simpa [gG] using hop
  cases b1 <;> rfl
 by_cases h5:k=5
 ·
  subst h5
  obtain rfl:b4=true:=by simpa [gG] using hop
  cases b1 <;> cases b2 <;> cases b3 <;> simp [gG]
 by_cases h6:k=6
 ·
  subst h6
  obtain rfl:b4=true:=by simpa [gG] using hop
  cases b1 <;> cases b2 <;> cases b3 <;> rfl
 by_cases h7:k=7
 ·
  subst h7
  obtain rfl:b4=true:=by simpa [gG] using hop
  by_cases hn:n=-1
  ·
   cases b2 <;> simp [gG,hn]
  ·
   cases b2 <;> cases inB n 0 2147483647 <;> by_cases hk:d.Kind=0 <;> simp [gG,hn,hk]
 by_cases h8:k=8
 ·
  subst h8
  obtain rfl:b4=true:=by simpa [gG] using hop
  cases b2 <;> cases b3 <;> rfl
 by_cases h9:k=9
 ·
  subst h9
  obtain rfl:b4=true:=by simpa [gG] using hop
  cases b3 <;> simp [gG]
 by_cases h10:k=10
 ·
  subst h10
  obtain rfl:b4=true:=by simpa [gG] using hop
  simp [gG]
 by_cases h12:k=12
 ·
  subst h12
  obtain rfl:b4=true:=by simpa [gG] using hop
  simp [gG]
 by_cases h14:k=14
 ·
  subst h14
  obtain rfl:b4=true:=by simpa [gG] using hop
  simp [gG]
 ·
  have:b4=true:=by simpa [gG,h1,h2,h3,h4,h5,h6,h7,h8,h9,h10,h12,h14] using hop
  subst this
  simp [gG,h1,h2,h3,h4,h5,h6,h7,h8,h9,h10,h12,h14]
end Go.Proofs.YtnigjppddilpcaaGreatDoor
namespace Go.Proofs.YtnigjppddilpcaaGreatDoor
open Go Abs
set_option linter.unusedSimpArgs false
set_option linter.unusedVariables false
def uV (s:List UInt8):List UInt8 × List UInt8 × Bool :=
 if Lib.indexByte s 47<0 then ([],[],false)
 else if 0≤Lib.indexByte (s.drop ((Lib.indexByte s 47).toNat+1)) 47 then ([],[],false)
 else (s.take (Lib.indexByte s 47).toNat,s.drop ((Lib.indexByte s 47).toNat+1),true)
theorem aFm (s:List UInt8) (c:UInt8):(Lib.indexByte s c=-1∧∀ k:Nat,s[k]?≠some c)∨∃ o:Nat,Lib.indexByte s c=(o:Int)∧s[o]?=some c∧(∀ k:Nat,k<o→s[k]?≠some c)∧o<s.length:=by
 by_cases h:Lib.indexByte s c=-1
 ·
  exact .inl ⟨h,Lib.indexByte_none h⟩
 ·
  have hg:=Lib.indexByte_ge s c
  obtain ⟨o,ho⟩:∃ o:Nat,Lib.indexByte s c=(o:Int):=⟨(Lib.indexByte s c).toNat,by omega⟩
  obtain ⟨h1,h2⟩:=Lib.indexByte_some ho
  exact .inr ⟨o,ho,h1,h2,(List.getElem?_eq_some_iff.1 h1).1⟩
theorem aA9 (s:List UInt8):((∀ k:Nat,s[k]?≠some 47)∧uV s=([],[],false))∨(∃ i j:Nat,i<j∧s[i]?=some 47∧s[j]?=some 47∧uV s=([],[],false))∨∃ j:Nat,s[j]?=some 47∧(∀ k:Nat,k≠j→s[k]?≠some 47)∧j<s.length∧uV s=(s.take j,s.drop (j+1),true):=by
 unfold uV
 rcases aFm s 47 with ⟨h1,h2⟩ | ⟨o,h1,h2,h3,h4⟩
 ·
  exact .inl ⟨h2,by rw [if_pos (by omega)]⟩
 ·
  rw [if_neg (by omega),h1,Int.toNat_natCast]
  rcases aFm (s.drop (o+1)) 47 with ⟨k1,k2⟩ | ⟨p,k1,k2,k3,k4⟩
  ·
   refine .inr (.inr ⟨o,h2,fun k hk=>?_,h4,by rw [if_neg (by omega)]⟩)
   rcases Nat.lt_or_gt_of_ne hk with hk | hk
   ·
    exact h3 k hk
   ·
    have:=k2 (k - (o+1))
    rw [List.getElem?_drop,show o+1+(k - (o+1))=k by omega] at this
    exact this
  ·
   rw [List.getElem?_drop] at k2
   exact .inr (.inl ⟨o,o+1+p,by omega,h2,k2,by rw [if_pos (by omega)]⟩)
theorem aMo {s:List UInt8}{j:Nat} (h:s[j]?=some 47) (hu:∀ k:Nat,k≠j→s[k]?≠some 47):uV s=(s.take j,s.drop (j+1),true):=by
 rcases aA9 s with ⟨h1,_⟩ | ⟨i,k,hik,h1,h2,_⟩ | ⟨i,h1,h2,_,h3⟩
 ·
  exact absurd h (h1 j)
 ·
  by_cases e:i=j
  ·
   exact absurd h2 (hu k (by omega))
  ·
   exact absurd h1 (hu i e)
 ·
  have:i=j:=Decidable.byContradiction fun e=>hu i e h1
  rw [h3,this]
theorem aMp {s:List UInt8}{i j:Nat} (hij:i<j) (h:s[i]?=some 47) (h':s[j]?=some 47):uV s=([],[],false):=by
 rcases aA9 s with ⟨_,h2⟩ | ⟨_,_,_,_,_,h2⟩ | ⟨k,h1,h2,_,h3⟩
 ·
  exact h2
 ·
  exact h2
 ·
  by_cases e:i=k
  ·
   exact absurd h' (h2 j (by omega))
  ·
   exact absurd h (h2 i e)
theorem aKH {s:List UInt8} (h:∀ k:Nat,s[k]?≠some 47):uV s=([],[],false):=by
 rcases aA9 s with ⟨_,h2⟩ | ⟨_,_,_,_,_,h2⟩ | ⟨k,h1,_⟩
 ·
  exact h2
 ·
  exact h2
 ·
  exact absurd h1 (h k)
theorem aPr {s:List UInt8} (h:s.length≤140737488355328):uC s [47]=some (if Lib.indexByte s 47<0 then (s,[],false) else (s.take (Lib.indexByte s 47).toNat,s.drop ((Lib.indexByte s 47).toNat+1),true)):=by
 unfold uC qN oL
 simp only [Option.bind_some]
 rcases aFm s 47 with ⟨h1,h2⟩ | ⟨o,h1,h2,h3,h4⟩
 ·
  rw [h1];rfl
 ·
  rw [h1,bE,if_pos (by omega),if_neg (by omega),aE1 (by omega),Option.bind_some]
  simp only [List.length_singleton]
  rw [w64 (by omega) (by omega),aC0 (by omega),Option.bind_some,Option.bind_some,show ((o:Int)+((1:Nat):Int)).toNat=o+1 by omega,Int.toNat_natCast]
theorem aGv {s:List UInt8} (h:s.length≤140737488355328):wE s=some (uV s):=by
 unfold wE pN uV
 rw [aPr h,Option.bind_some]
 by_cases h1:Lib.indexByte s 47<0
 ·
  rw [if_pos h1,if_pos h1]
  simp [gd]
 ·
  rw [if_neg h1,if_neg h1]
  by_cases h2:0≤Lib.indexByte (s.drop ((Lib.indexByte s 47).toNat+1)) 47
  ·
   rw [if_pos h2];simp [gd,h2]
  ·
   rw [if_neg h2];simp [gd,h2]
theorem aGD {s:List UInt8} (h:s.length≤140737488355328):∃ x,dL (wN s) ((-1:Int),(0:Int))=some x∧((x=Fl.done ([],[],false)∧∃ i j:Nat,i<j∧s[i]?=some 47∧s[j]?=some 47)∨(x=Fl.go (-1)∧∀ k:Nat,s[k]?≠some 47)∨∃ j:Nat,x=Fl.go (j:Int)∧s[j]?=some 47∧(∀ k:Nat,k≠j→s[k]?≠some 47)∧j<s.length):=by
 refine qK (fun t=>∃ i:Nat,t.2=(i:Int)∧i≤s.length∧((t.1=-1∧∀ k:Nat,k<i→s[k]?≠some 47)∨∃ j:Nat,t.1=(j:Int)∧j<i∧s[j]?=some 47∧∀ k:Nat,k<i→k≠j→s[k]?≠some 47)) (fun t=>s.length - t.2.toNat) _ ?_ _ ⟨0,rfl,by omega,.inl ⟨rfl,fun k hk=>absurd hk (Nat.not_lt_zero k)⟩⟩
 rintro ⟨x,i0⟩ ⟨i,hi0,hle,hx⟩
 simp only at hi0 hx
 subst hi0
 unfold wN
 simp only
 by_cases hc:i<s.length
 ·
  rw [bE,if_pos (by omega),eQ hc,Option.bind_some,kR hc (by omega)]
  have hg:s[i]?=some s[i]:=List.getElem?_eq_getElem hc
  have h47:((s[i].toNat:Int)=47)↔s[i]=47:=by
   constructor
   ·
    intro e
    have:s[i].toNat=(47:UInt8).toNat:=by show s[i].toNat=47;omega
    exact UInt8.toNat_inj.1 this
   ·
    intro e;rw [e];rfl
  generalize s[i]=c at *
  by_cases hcc:c=47
  ·
   have e1:((c.toNat:Int)=47):=h47.2 hcc
   subst hcc
   rcases hx with ⟨rfl,hn⟩ | ⟨j,rfl,hj,hj1,hn⟩
   ·
    simp only [e1,decide_true,cond_true,show decide ((0:Int)≤-1)=false from rfl,cond_false,Option.bind_some]
    refine .inl ⟨_,rfl,⟨i+1,rfl,hc,.inr ⟨i,rfl,by omega,hg,fun k hk hne=>hn k (by omega)⟩⟩,by simp;omega⟩
   ·
    have e2:decide ((0:Int)≤(j:Int))=true:=by simp
    simp only [e1,decide_true,cond_true,e2]
    exact .inr ⟨_,rfl,.inl ⟨rfl,j,i,hj,hj1,hg⟩⟩
  ·
   have e1:¬((c.toNat:Int)=47):=fun e=>hcc (h47.1 e)
   have hne:s[i]?≠some 47:=by rw [hg];simpa using hcc
   simp only [e1,decide_false,cond_false,Option.bind_some]
   refine .inl ⟨_,rfl,⟨i+1,rfl,hc,?_⟩,by simp;omega⟩
   rcases hx with ⟨rfl,hn⟩ | ⟨j,rfl,hj,hj1,hn⟩
   ·
    refine .inl ⟨rfl,fun k hk=>?_⟩
    by_cases e:k=i
    ·
     rw [e];exact hne
    ·
     exact hn k (by omega)
   ·
    refine .inr ⟨j,rfl,by omega,hj1,fun k hk hkj=>?_⟩
    by_cases e:k=i
    ·
     rw [e];exact hne
    ·
     exact hn k (by omega) hkj
 ·
  rw [bE,if_neg (by omega)]
  have:i=s.length:=by omega
  subst this
  have hout:∀ k:Nat,¬k<s.length→s[k]?≠some 47:=fun k hk=>by rw [List.getElem?_eq_none (by omega)];simp
  refine .inr ⟨_,rfl,.inr ?_⟩
  rcases hx with ⟨rfl,hn⟩ | ⟨j,rfl,hj,hj1,hn⟩
  ·
   refine .inl ⟨rfl,fun k=>?_⟩
   by_cases hk:k<s.length
   ·
    exact hn k hk
   ·
    exact hout k hk
  ·
   refine .inr ⟨j,rfl,hj1,fun k hkj=>?_,hj⟩
   by_cases hk:k<s.length
   ·
    exact hn k hk hkj
   ·
    exact hout k hk
theorem aJj {s:List UInt8} (h:s.length≤140737488355328):aA0 s=some (uV s):=by
 obtain ⟨x,hx,hc⟩:=aGD h
 unfold aA0
 rw [hx,Option.bind_some]
 rcases hc with ⟨rfl,i,j,h1,h2,h3⟩ | ⟨rfl,h1⟩ | ⟨j,rfl,h1,h2,h3⟩
 ·
  rw [aMp h1 h2 h3];rfl
 ·
  rw [aKH h1];rfl
 ·
  rw [aMo h1 h2]
  simp only [Fl.next]
  rw [bE,if_neg (by omega),aE1 (by omega),Option.bind_some,w64 (by omega) (by omega),aC0 (by omega),Option.bind_some,Int.toNat_natCast,show ((j:Int)+1).toNat=j+1 by omega]
end Go.Proofs.YtnigjppddilpcaaGreatDoor
namespace Go.Proofs.YtnigjppddilpcaaGreatDoor
open Go Abs
set_option maxRecDepth 100000
set_option linter.unusedVariables false
set_option linter.unusedSimpArgs false
theorem aAB (n:Nat):(∀ a0 m,n≤m→LeO (iN n a0) (iN m a0)):=by
 induction n with
 | zero=>exact fun _ _ _=>by intro r h;simp [iN] at h
 | succ n ih =>
  intro a0 m hm
  obtain ⟨m,rfl⟩:∃ k,m=k+1:=⟨m - 1,by omega⟩
  rw [iN,iN]
  repeat' with_reducible (first | exact ih _ _ (by omega) | refine zD ?_ (fun _=>?_) | refine zE ?_ ?_ | refine aFr ?_ | refine zF (fun _=>?_) | refine wB (fun _=>?_) | exact xG _)
theorem aDC {n:Nat}{p0n:Int}{r:(List UInt8)} (h:iN n p0n=some r):rU p0n=some r:=by
 unfold rU
 exact aKm (n:=n) h fun m hm=>(aAB n) p0n m hm
theorem oG (kN qD:Int→Int→aD→Option (aC × Int × aD)) (x1:(Int × aD)) (oU:Int) (kL:Int) (s10:(Int × Int × aD × (List aC) × (List (List UInt8)))) (hrec_value_decoder_value:∀ a0 a1 a2,LeO (qD a0 a1 a2) (kN a0 a1 a2)):LeO (cQ qD x1 oU kL s10) (cQ kN x1 oU kL s10):=by
 unfold cQ
 repeat' with_reducible (first | exact hrec_value_decoder_value _ _ _ | refine zD ?_ (fun _=>?_) | refine zE ?_ ?_ | refine aFr ?_ | refine zF (fun _=>?_) | refine wB (fun _=>?_) | exact xG _)
theorem uK (n:Nat):(∀ a0 a1 a2 a3 a4 a5 m,n≤m→LeO (eE n a0 a1 a2 a3 a4 a5) (eE m a0 a1 a2 a3 a4 a5))∧(∀ a0 a1 a2 m,n≤m→LeO (bX n a0 a1 a2) (bX m a0 a1 a2)):=by
 induction n with
 | zero=>exact ⟨fun _ _ _ _ _ _ _ _=>by intro r h;simp [eE] at h,fun _ _ _ _ _=>by intro r h;simp [bX] at h⟩
 | succ n ih =>
  refine ⟨?_,?_⟩
  ·
   intro a0 a1 a2 a3 a4 a5 m hm
   obtain ⟨m,rfl⟩:∃ k,m=k+1:=⟨m - 1,by omega⟩
   rw [eE,eE]
   repeat' with_reducible (first | exact ih.1 _ _ _ _ _ _ _ (by omega) | exact ih.2 _ _ _ _ (by omega) | refine oG _ _ _ _ _ _ (fun _ _ _=>?_) | refine zD ?_ (fun _=>?_) | refine zE ?_ ?_ | refine aFr ?_ | refine zF (fun _=>?_) | refine wB (fun _=>?_) | exact xG _)
  ·
   intro a0 a1 a2 m hm
   obtain ⟨m,rfl⟩:∃ k,m=k+1:=⟨m - 1,by omega⟩
   rw [bX,bX]
   repeat' with_reducible (first | exact ih.1 _ _ _ _ _ _ _ (by omega) | exact ih.2 _ _ _ _ (by omega) | refine oG _ _ _ _ _ _ (fun _ _ _=>?_) | refine zD ?_ (fun _=>?_) | refine zE ?_ ?_ | refine aFr ?_ | refine zF (fun _=>?_) | refine wB (fun _=>?_) | exact xG _)
theorem rD {n:Nat}{iI:Int}{cN:Int}{gY:aD}{r:(aC × Int × aD)} (h:bX n iI cN gY=some r):mP iI cN gY=some r:=by
 unfold mP
 exact aKm (n:=n) h fun m hm=>(uK n).2 iI cN gY m hm
theorem oF (kM qC:Int→Int→aM→Option (aC × Int × aM)) (x1:(Int × aM)) (oU:Int) (kL:Int) (s8:(Int × Int × aM × (List aC) × (List (List UInt8)))) (hrec_ref02xdecoder_value:∀ a0 a1 a2,LeO (qC a0 a1 a2) (kM a0 a1 a2)):LeO (dX qC x1 oU kL s8) (dX kM x1 oU kL s8):=by
 unfold dX
 repeat' with_reducible (first | exact hrec_ref02xdecoder_value _ _ _ | refine zD ?_ (fun _=>?_) | refine zE ?_ ?_ | refine aFr ?_ | refine zF (fun _=>?_) | refine wB (fun _=>?_) | exact xG _)
theorem uJ (n:Nat):(∀ a0 a1 a2 a3 a4 a5 m,n≤m→LeO (gH n a0 a1 a2 a3 a4 a5) (gH m a0 a1 a2 a3 a4 a5))∧(∀ a0 a1 a2 m,n≤m→LeO (dA n a0 a1 a2) (dA m a0 a1 a2)):=by
 induction n with
 | zero=>exact ⟨fun _ _ _ _ _ _ _ _=>by intro r h;simp [gH] at h,fun _ _ _ _ _=>by intro r h;simp [dA] at h⟩
 | succ n ih =>
  refine ⟨?_,?_⟩
  ·
   intro a0 a1 a2 a3 a4 a5 m hm
   obtain ⟨m,rfl⟩:∃ k,m=k+1:=⟨m - 1,by omega⟩
   rw [gH,gH]
   repeat' with_reducible (first | exact ih.1 _ _ _ _ _ _ _ (by omega) | exact ih.2 _ _ _ _ (by omega) | refine oF _ _ _ _ _ _ (fun _ _ _=>?_) | refine zD ?_ (fun _=>?_) | refine zE ?_ ?_ | refine aFr ?_ | refine zF (fun _=>?_) | refine wB (fun _=>?_) | exact xG _)
  ·
   intro a0 a1 a2 m hm
   obtain ⟨m,rfl⟩:∃ k,m=k+1:=⟨m - 1,by omega⟩
   rw [dA,dA]
   repeat' with_reducible (first | exact ih.1 _ _ _ _ _ _ _ (by omega) | exact ih.2 _ _ _ _ (by omega) | refine oF _ _ _ _ _ _ (fun _ _ _=>?_) | refine zD ?_ (fun _=>?_) | refine zE ?_ ?_ | refine aFr ?_ | refine zF (fun _=>?_) | refine wB (fun _=>?_) | exact xG _)
theorem yL {n:Nat}{iI:Int}{cN:Int}{gY:aM}{r:(aC × Int × aM)} (h:dA n iI cN gY=some r):pV iI cN gY=some r:=by
 unfold pV
 exact aKm (n:=n) h fun m hm=>(uJ n).2 iI cN gY m hm
end Go.Proofs.YtnigjppddilpcaaGreatDoor
namespace Go.Proofs.YtnigjppddilpcaaGreatDoor
open Go Abs
set_option linter.unusedSimpArgs false
set_option linter.unusedVariables false
theorem aDk {u:Nat} (h:u<10):Lib.decDigits u=[UInt8.ofNat (48+u)]:=by rw [Lib.decDigits];simp [h]
theorem aHC {u:Nat} (h:¬u<10):Lib.decDigits u=Lib.decDigits (u / 10)++[UInt8.ofNat (48+u % 10)]:=by rw [Lib.decDigits];simp [h]
theorem aCx:∀ (k u:Nat),u<10 ^ (k+1)→(Lib.decDigits u).length≤k+1
 | 0,u,h=>by rw [aDk (by omega)];simp
 | k+1,u,h=>by
  by_cases hu:u<10
  ·
   rw [aDk hu];simp
  ·
   rw [aHC hu]
   have:=aCx k (u / 10) (by rw [Nat.pow_succ] at h;omega)
   simp;omega
end Go.Proofs.YtnigjppddilpcaaGreatDoor
namespace Go.Proofs.YtnigjppddilpcaaGreatDoor
open Go Abs
set_option linter.unusedSimpArgs false
set_option linter.unusedVariables false
theorem aFz {s:List UInt8} (h:s.length≤140737488355328):tX s=some (qL s):=by unfold tX;rw [if_pos h]
end Go.Proofs.YtnigjppddilpcaaGreatDoor
namespace Go.Proofs.YtnigjppddilpcaaGreatDoor
open Go Abs
set_option linter.unusedSimpArgs false
set_option linter.unusedVariables false
theorem aKa:∀ (n u:Nat),u<10 ^ (n+1)→u≤9223372036854775808→n≤30→iN (n+1) (-(u:Int))=some (Lib.decDigits u):=by
 intro n
 induction n with
 | zero =>
  intro u h hb _
  have hu:u<10:=by omega
  rw [iN]
  have e1:IntKind.u8.wrap (IntKind.i64.wrap (48+IntKind.i64.wrap (0 - (-(u:Int)).tmod 10)))=((48+u:Nat):Int):=by
   have:(-(u:Int)).tmod 10=-(u:Int):=by rw [Int.neg_tmod,Int.tmod_eq_emod_of_nonneg (by omega)];omega
   rw [this,IntKind.wrap_u8,IntKind.wrap_i64,IntKind.wrap_i64];omega
  rw [e1,aCv (by omega),Option.bind_some,bE,if_pos (by omega),aDk hu]
 | succ n ih =>
  intro u h hb hn
  rw [iN]
  have e1:IntKind.u8.wrap (IntKind.i64.wrap (48+IntKind.i64.wrap (0 - (-(u:Int)).tmod 10)))=((48+u % 10:Nat):Int):=by
   have:(-(u:Int)).tmod 10=-((u % 10:Nat):Int):=by rw [Int.neg_tmod,Int.tmod_eq_emod_of_nonneg (by omega)];omega
   rw [this,IntKind.wrap_u8,IntKind.wrap_i64,IntKind.wrap_i64];omega
  rw [e1,aCv (by omega),Option.bind_some,bE]
  by_cases hu:u<10
  ·
   rw [if_pos (by omega),aDk hu,Nat.mod_eq_of_lt hu]
  ·
   rw [if_neg (by omega)]
   have e2:IntKind.i64.wrap ((-(u:Int)).tdiv 10)=-((u / 10:Nat):Int):=by
    have:(-(u:Int)).tdiv 10=-((u / 10:Nat):Int):=by rw [Int.neg_tdiv,Int.tdiv_eq_ediv_of_nonneg (by omega)];omega
    rw [this,w64 (by omega) (by omega)]
   have hl:=aCx n (u / 10) (by rw [Nat.pow_succ] at h;omega)
   rw [e2,ih (u / 10) (by rw [Nat.pow_succ] at h;omega) (by omega) (by omega),Option.bind_some,aMU (by simp;omega),Option.bind_some,aHC hu]
theorem aLR {u:Nat} (h:u≤9223372036854775808):rU (-(u:Int))=some (Lib.decDigits u):=aDC (aKa 19 u (by omega) h (by omega))
theorem aEg {n:Int} (h:lV n):aDD n=some (aAD n):=by
 unfold aDD aAD
 rw [bE]
 by_cases h1:n<1
 ·
  rw [if_pos h1,if_pos h1]
 ·
  rw [if_neg h1,if_neg h1]
  obtain ⟨h2,h3⟩:=h
  unfold aBQ
  obtain ⟨u,rfl⟩:∃ u:Nat,n=(u:Int):=⟨n.toNat,by omega⟩
  rw [bE,if_neg (by omega),show (0:Int) - (u:Int)=-(u:Int) by omega,w64 (by omega) (by omega),aLR (by omega),Option.bind_some,Option.bind_some]
  have hl:=aCx 18 u (by omega)
  rw [aMU (by simp;omega),Option.bind_some,Lib.itoa_nonneg];rfl
def rdS (a:Nat) (c:UInt8):Nat:=10*a+(c.toNat - 48)
def rd (a:Nat) (l:List UInt8):Nat:=l.foldl rdS a
theorem aCL (c:UInt8) (l:List UInt8) (a:Nat):rd a (c :: l)=rd (rdS a c) l:=List.foldl_cons ..
theorem aDA (a:Nat):rd a []=a:=List.foldl_nil ..
theorem aDz (l m:List UInt8) (a:Nat):rd a (l++m)=rd (rd a l) m:=List.foldl_append ..
theorem aPS (a:Nat) (c:UInt8):a≤rdS a c:=by unfold rdS;omega
theorem aNI:∀ (l:List UInt8) (a:Nat),a≤rd a l
 | [],a=>by rw [aDA];exact Nat.le_refl a
 | c :: l,a=>by rw [aCL];exact Nat.le_trans (aPS a c) (aNI l (rdS a c))
def dig (c:UInt8):Prop:=48≤c.toNat∧c.toNat≤57
theorem aM1 {u:Nat} (h:u<10):dig (UInt8.ofNat (48+u))∧(UInt8.ofNat (48+u)).toNat - 48=u:=by
 have:(UInt8.ofNat (48+u)).toNat=48+u:=by simp;omega
 unfold dig;omega
theorem aKu:∀ u,rd 0 (Lib.decDigits u)=u∧∀ c∈Lib.decDigits u,dig c:=by
 intro u
 induction u using Nat.strongRecOn with
 | _ u ih =>
  by_cases h:u<10
  ·
   obtain ⟨h1,h2⟩:=aM1 h
   rw [aDk h,aCL,aDA]
   refine ⟨?_,by simp only [List.mem_singleton];rintro c rfl;exact h1⟩
   unfold rdS
   omega
  ·
   obtain ⟨h1,h2⟩:=aM1 (u:=u % 10) (by omega)
   obtain ⟨i1,i2⟩:=ih (u / 10) (by omega)
   rw [aHC h,aDz,i1,aCL,aDA]
   refine ⟨?_,?_⟩
   ·
    unfold rdS
    omega
   ·
    intro c hc
    rcases List.mem_append.1 hc with hc | hc
    ·
     exact i2 c hc
    ·
     rw [List.mem_singleton.1 hc];exact h1
theorem aPs (u:Nat):Lib.decDigits u≠[]:=by
 by_cases h:u<10
 ·
  rw [aDk h];simp
 ·
  rw [aHC h];simp
theorem aNw:∀ (l:List UInt8) (a:Nat),(∀ c∈l,dig c)→rd a l<18446744073709551616→Lib.parseUint10 a l=.ok (rd a l):=by
 intro l
 induction l with
 | nil=>intro a _ _;rw [aDA,Lib.parseUint10]
 | cons c l ih =>
  intro a hd hr
  have hc:=hd c (by simp)
  have hge:=aNI l (rdS a c)
  rw [aCL] at hr ⊢
  unfold dig at hc
  have hs:rdS a c=10*a+(c.toNat - 48):=rfl
  rw [Lib.parseUint10,if_pos hc,if_neg (by omega),Nat.mul_comm a 10,if_neg (by omega),← hs]
  exact ih _ (fun x hx=>hd x (by simp [hx])) hr
theorem aMQ {u:Nat} (h:u≤9223372036854775807):Lib.atoiAll (Lib.decDigits u)=.ok (u:Int):=by
 obtain ⟨h1,h2⟩:=aKu u
 have hp:=aNw (Lib.decDigits u) 0 h2 (by omega)
 rw [h1] at hp
 have hne:=aPs u
 generalize Lib.decDigits u=l at *
 cases l with
 | nil=>exact absurd rfl hne
 | cons c r =>
  have hc:=h2 c (by simp)
  unfold dig at hc
  unfold Lib.atoiAll
  simp only
  rw [if_neg (by omega)]
  unfold Lib.parseMag
  rw [if_neg (by simp),hp]
  simp only
  rw [if_neg (by omega),if_neg (by omega),if_neg (by omega)]
theorem aFX {v:Int} (h:1≤v):aAD v=114 :: Lib.decDigits v.toNat:=by
 unfold aAD
 rw [if_neg (by omega)]
 obtain ⟨u,rfl⟩:∃ u:Nat,v=(u:Int):=⟨v.toNat,by omega⟩
 rw [Lib.itoa_nonneg];rfl
theorem aIZ {v:Int} (h1:1≤v) (h2:v≤9223372036854775807):qL (aAD v)=(v,true):=by
 unfold qL
 have hr:=aFX h1
 have hp:Lib.hasPrefix (aAD v) [114]=true:=by rw [hr];simp [Lib.hasPrefix]
 have ht:Lib.trimPrefix (aAD v) [114]=Lib.decDigits v.toNat:=by unfold Lib.trimPrefix;rw [if_pos hp,hr];rfl
 rw [if_pos hp,ht,aMQ (by omega)]
 simp only
 rw [show ((v.toNat:Nat):Int)=v by omega,if_pos ⟨rfl,h1⟩]
theorem aEb (s:List UInt8):(∃ v:Int,1≤v∧v≤9223372036854775807∧aAD v=s∧qL s=(v,true))∨((∀ v:Int,1≤v→v≤9223372036854775807→aAD v≠s)∧qL s=(0,false)):=by
 by_cases h:∃ v:Int,1≤v∧v≤9223372036854775807∧aAD v=s
 ·
  obtain ⟨v,h1,h2,rfl⟩:=h
  exact .inl ⟨v,h1,h2,rfl,aIZ h1 h2⟩
 ·
  refine .inr ⟨fun v h1 h2 h3=>h ⟨v,h1,h2,h3⟩,?_⟩
  unfold qL
  split
  ·
   split
   ·
    rename_i v hv
    have hb:=aIq hv
    rw [if_neg fun hh=>h ⟨v,hh.2,hb.2,hh.1⟩]
   ·
    rfl
  ·
   rfl
theorem aQg {x:Int} (h1:-9223372036854775808≤x) (h2:x≤9223372036854775807):(x+9223372036854775808) % 18446744073709551616 - 9223372036854775808=x:=by omega
theorem aQh {x:Int} (h1:-9223372036854775808≤x - 48) (h2:x - 48≤9223372036854775807):((x+9223372036854775808) % 18446744073709551616 - 9223372036854775808 - 48+9223372036854775808) % 18446744073709551616 - 9223372036854775808=x - 48:=by omega
theorem aNJ (c:UInt8) (l:List UInt8):rd 0 (((c :: l).take 1).drop 1)=0:=by
 rw [List.take_succ_cons,List.take_zero,List.drop_succ_cons,List.drop_zero,aDA]
theorem aM3 (c:UInt8) (l:List UInt8):(c :: l).drop 1=l:=by rw [List.drop_succ_cons,List.drop_zero]
theorem aFU {s:List UInt8} (h:s.length≤140737488355328):∃ x,dL (uR s) ((0:Int),(1:Int))=some x∧lV x∧∀ u:Nat,1≤u→u≤9223372036854775807→s=114 :: Lib.decDigits u→x=(u:Int):=by
 refine qK (fun t=>∃ i:Nat,t.2=(i:Int)∧1≤i∧lV t.1∧∀ u:Nat,1≤u→u≤9223372036854775807→s=114 :: Lib.decDigits u→i≤s.length∧t.1=(rd 0 ((s.take i).drop 1):Int)) (fun t=>s.length - t.2.toNat) _ ?_ _ ⟨1,rfl,by omega,by simp [lV],fun u _ _ hs=>⟨by rw [hs,List.length_cons];omega,by rw [hs,aNJ];rfl⟩⟩
 rintro ⟨x,i0⟩ ⟨i,hi0,h1,hx,hu⟩
 simp only at hi0 hx hu
 subst hi0
 unfold uR
 by_cases hc:i<s.length∧s.length≤20
 ·
  have e:(cond (decide ((i:Int)<(s.length:Int))) (decide ((s.length:Int)≤20)) false)=true:=by
   have a1:(i:Int)<s.length:=by omega
   have a2:(s.length:Int)≤20:=by omega
   simp [a1,a2]
  simp only
  rw [e,cond_true,eQ hc.1,Option.bind_some,kR hc.1 (by omega)]
  refine .inl ⟨_,rfl,⟨i+1,rfl,by omega,?_,fun u hu1 hu2 hs=>⟨hc.1,?_⟩⟩,by simp;omega⟩
  ·
   simp only [lV,IntKind.wrap_i64];omega
  ·
   obtain ⟨hi,hxe⟩:=hu u hu1 hu2 hs
   simp only
   have hr:=aKu u
   have hsplit:(s.take (i+1)).drop 1=(s.take i).drop 1++[s[i]]:=by
    rw [List.take_succ_eq_append_getElem hc.1,List.drop_append_of_le_length (by simp;omega)]
   have hd:dig s[i]:=by
    refine hr.2 _ ?_
    have:s.drop 1=Lib.decDigits u:=by rw [hs,aM3]
    rw [← this]
    have:s[i]=(s.drop 1)[i - 1]'(by simp;omega):=by simp only [List.getElem_drop];congr 1;omega
    rw [this];exact List.getElem_mem _
   have hle:rd 0 ((s.take (i+1)).drop 1)≤u:=by
    have h2:s.drop 1=(s.take (i+1)).drop 1++s.drop (i+1):=by
     conv=>lhs;rw [← List.take_append_drop (i+1) s,List.drop_append_of_le_length (by simp;omega)]
    have h3:rd 0 (s.drop 1)=u:=by rw [hs,aM3];exact hr.1
    rw [h2,aDz] at h3
    have:=aNI (s.drop (i+1)) (rd 0 ((s.take (i+1)).drop 1))
    omega
   rw [hsplit,aDz] at hle ⊢
   rw [aCL,aDA] at hle ⊢
   unfold dig at hd
   have hs:rdS (rd 0 ((s.take i).drop 1)) s[i]=10*rd 0 ((s.take i).drop 1)+(s[i].toNat - 48):=rfl
   rw [hs] at hle ⊢
   rw [hxe]
   generalize rd 0 ((s.take i).drop 1)=R at *
   generalize s[i]=c at *
   clear hs hsplit
   simp only [IntKind.wrap_i64]
   generalize c.toNat=d at *
   rw [aQg (x:=10*(R:Int)) (by omega) (by omega),aQg (x:=(d:Int)) (by omega) (by omega),aQh (x:=10*(R:Int)+(d:Int)) (by omega) (by omega)]
   omega
 ·
  have e:(cond (decide ((i:Int)<(s.length:Int))) (decide ((s.length:Int)≤20)) false)=false:=by
   by_cases a1:(i:Int)<s.length
   ·
    have a2:¬(s.length:Int)≤20:=by omega
    simp [a1,a2]
   ·
    simp [a1]
  simp only
  rw [e,cond_false]
  refine .inr ⟨x,rfl,hx,fun u hu1 hu2 hs=>?_⟩
  obtain ⟨hi,hxe⟩:=hu u hu1 hu2 hs
  have hl:=aCx 18 u (by omega)
  have hsl:s.length=(Lib.decDigits u).length+1:=by rw [hs,List.length_cons]
  have:i=s.length:=by omega
  rw [hxe,this,List.take_length]
  have h3:s.drop 1=Lib.decDigits u:=by rw [hs,aM3]
  rw [h3,(aKu u).1]
theorem aHT {s:List UInt8} (h:s.length≤140737488355328):zR s=some (qL s):=by
 obtain ⟨x,hx,hok,hu⟩:=aFU h
 unfold zR
 rw [hx,Option.bind_some]
 rcases aEb s with ⟨v,h1,h2,h3,h4⟩ | ⟨h3,h4⟩
 ·
  have hxv:x=v:=by
   have:=hu v.toNat (by omega) (by omega) (by rw [← h3,aFX h1])
   omega
  subst hxv
  rw [aEg hok,h4,h3]
  have:¬x<1:=by omega
  simp [this,gd]
 ·
  rw [aEg hok,h4]
  by_cases h5:x<1
  ·
   simp [h5,gd]
  ·
   have:=h3 x (by omega) hok.2
   simp [h5,gd,this]
end Go.Proofs.YtnigjppddilpcaaGreatDoor
namespace Go.Proofs.YtnigjppddilpcaaGreatDoor
open Go Abs
set_option linter.unusedSimpArgs false
set_option linter.unusedVariables false
theorem gdS {c b:Bool}:gd c (some b)=some (if c=true then b else default):=by unfold gd;split <;> rfl
theorem cA (a b:Bool):cond a (if (a==true)=true then b else default) false=(a&&b):=by cases a <;> rfl
theorem cO (a b:Bool):cond a true (if (a==false)=true then b else default)=(a||b):=by cases a <;> rfl
theorem cF (a b:Bool):cond a b false=(a&&b):=by cases a <;> rfl
theorem cT (a b:Bool):cond a true b=(a||b):=by cases a <;> rfl
theorem qE {n l h:Int}:jP n l h=some (inB n l h):=by unfold jP inB;rw [cF]
theorem aFT {n l h:Int}:mW n l h=some (inB n l h):=by unfold mW inB;rw [cF]
theorem tC {s:List UInt8} (hs:s.length≤9223372036854775807):mK s=some (jH s):=(show mK s=nV s from rfl).trans (aII hs)
def aCh (s:List UInt8):Bool:=decide (s=[])||(qL s).2
theorem aA4 {s:List UInt8} (hs:s.length≤140737488355328):rA s=some (aCh s):=by
 unfold rA aCh
 rw [aFz hs,Option.bind_some,cT]
theorem aEh {s:List UInt8} (hs:s.length≤140737488355328):aBw s=some (aCh s):=by
 unfold aBw aCh
 rw [aHT hs,Option.bind_some,cT]
def aGx (s:List UInt8):Bool:=decide (s=[])||((uV s).2.2&&decide ((s.length:Int)≤4096))
theorem aCU {s:List UInt8} (hs:s.length≤140737488355328):pB s=some (aGx s):=by
 unfold pB aGx
 rw [aGv hs,Option.bind_some,cT,cF]
def nH (k:Int):eL :=
 if k=1 then ⟨true,true,false,false,true,true,true,false,true⟩
 else if k=2 then ⟨true,true,false,false,false,false,true,false,false⟩
 else if k=5 then ⟨true,true,false,false,false,false,true,false,false⟩
 else if k=3 then ⟨true,false,false,false,false,false,false,false,false⟩
 else if k=4 then ⟨false,true,false,false,false,false,false,false,false⟩
 else if k=6 then ⟨false,false,false,true,false,false,false,false,false⟩
 else if k=7 then ⟨false,false,true,false,false,false,true,true,false⟩
 else if k=8 then ⟨false,false,true,false,false,true,false,false,false⟩
 else if k=9 then ⟨false,false,false,false,true,true,false,false,false⟩
 else if k=10 then ⟨false,false,true,false,true,false,true,false,false⟩
 else if k=12 then ⟨false,false,true,false,true,false,true,false,false⟩
 else if k=13 then ⟨false,false,true,false,true,false,true,false,false⟩
 else if k=11 then ⟨false,true,true,false,true,false,true,false,false⟩
 else if k=15 then ⟨true,true,false,false,true,true,true,false,false⟩
 else if k=16 then ⟨false,true,false,false,true,true,false,false,false⟩
 else if k=17 then ⟨false,false,false,false,false,true,false,false,false⟩
 else ⟨false,false,false,false,false,false,false,false,false⟩
theorem aCS (k:Int):oZ k=some (nH k):=by
 unfold oZ nH
 by_cases h1:k=1
 ·
  simp [h1]
 by_cases h2:k=2
 ·
  simp [h2]
 by_cases h5:k=5
 ·
  simp [h5]
 by_cases h3:k=3
 ·
  simp [h3]
 by_cases h4:k=4
 ·
  simp [h4]
 by_cases h6:k=6
 ·
  simp [h6]
 by_cases h7:k=7
 ·
  simp [h7]
 by_cases h8:k=8
 ·
  simp [h8]
 by_cases h9:k=9
 ·
  simp [h9]
 by_cases h10:k=10
 ·
  simp [h10]
 by_cases h12:k=12
 ·
  simp [h12]
 by_cases h13:k=13
 ·
  simp [h13]
 by_cases h11:k=11
 ·
  simp [h11]
 by_cases h15:k=15
 ·
  simp [h15]
 by_cases h16:k=16
 ·
  simp [h16]
 by_cases h17:k=17
 ·
  simp [h17]
 simp [h1,h2,h3,h4,h5,h6,h7,h8,h9,h10,h11,h12,h13,h15,h16,h17]
def uM (q:aY) (u:eL):Bool :=
 (u.id_||decide (q.ID=[]))&&(u.name_||decide (q.Name=[]))&&(u.token_||decide (q.Token=0))&&(u.event_||decide (q.Event=0))&&(u.seq_||decide (q.Seq=0))&&(u.n_||decide (q.N=0))&&(u.data_||oM q.Data qH)&&(u.commands_||decide ((q.Commands.length:Int)=0))&&(u.parent_||decide (q.Parent=[]))&&yI q.Opts sN
theorem aEz {q:aY}{u:eL} (h:fO q):rY q u=some (uM q u):=by
 unfold rY uM
 have hd:bR q.Data:=h.2.2.2.2.2.2.2.2.2.2.1
 have ho:eU q.Opts:=h.2.2.2.2.2.2.2.2.2.2.2.1
 rw [show (aC.mk 0 0 [] [] [])=qH from rfl,show (bL.mk [] 0 0 0 0 0 0 0 0 [])=sN from rfl,aBU hd,aBH ho]
 simp only [gdS,Option.bind_some,cA,cT,cF]
 have e:∀ a b p c:Bool,(a&&(b||if (a==true&&b==false)=true then p else default)&&c)=(a&&(b||p)&&c):=fun a b p c=>by cases a <;> cases b <;> rfl
 generalize (u.id_||decide (q.ID=[]))=b1
 generalize (u.name_||decide (q.Name=[]))=b2
 generalize (u.token_||decide (q.Token=0))=b3
 generalize (u.event_||decide (q.Event=0))=b4
 generalize (u.seq_||decide (q.Seq=0))=b5
 generalize (u.n_||decide (q.N=0))=b6
 generalize oM q.Data qH=b7
 generalize (u.commands_||decide ((q.Commands.length:Int)=0))=b8
 generalize (u.parent_||decide (q.Parent=[]))=b9
 generalize yI q.Opts sN=b10
 generalize (b1&&b2&&b3&&b4&&b5&&b6)=a
 cases a <;> cases u.data_ <;> simp
def aJa (k n:Int):Bool :=
 if k=1 then inB n 0 2 else if k=8 then inB n 1 30 else if k=9 then inB n 1 1000 else if k=15 then (decide (n=20)||decide (n=21)||decide (n=22)) else if k=16 then (decide (n=24)||decide (n=25)) else if k=17 then decide (1≤n) else true
theorem aCT (q:aY):pA q=some (aJa q.Kind q.N):=by
 unfold pA aJa
 simp only [qE,Option.bind_some,cT]
 simp only [bE]
 split
 ·
  rfl
 split
 ·
  rfl
 split
 ·
  rfl
 split
 ·
  rfl
 split
 ·
  rfl
 split <;> rfl
def zJ (q:aY) (u:eL):Bool :=
 if q.Kind=15 then (aCh q.ID&&decide ((q.Name.length:Int)≤4096)) else if q.Kind=16 then decide ((q.Name.length:Int)≤4096) else if q.Kind=4 then decide ((q.Name.length:Int)≤64) else if q.Kind=11 then jH q.Name else ((!u.id_||jH q.ID)&&(!u.name_||lQ q.Name))
theorem aDE {q:aY}{u:eL} (h:fO q):qF q u=some (zJ q u):=by
 have h1:q.ID.length≤140737488355328:=Nat.le_trans h.2.2.2.2.1 (by decide)
 have h2:q.Name.length≤140737488355328:=Nat.le_trans h.2.2.2.2.2.1 (by decide)
 unfold qF zJ
 rw [aA4 h1,tC (by omega),tC (by omega),tG]
 simp only [gdS,Option.bind_some,cA,cT,cF,cO]
 simp only [bE]
 split
 ·
  rfl
 split
 ·
  rfl
 split
 ·
  rfl
 split
 ·
  rfl
 ·
  generalize u.id_=a
  generalize u.name_=b
  cases a <;> cases b <;> cases jH q.ID <;> rfl
end Go.Proofs.YtnigjppddilpcaaGreatDoor
namespace Go.Proofs.YtnigjppddilpcaaGreatDoor
open Go Abs
set_option linter.unusedSimpArgs false
set_option linter.unusedVariables false
theorem aKG {l:List aP} (h:wF 240 eP l):dB l=some (l.any fun c=>!iK c):=by
 unfold dB eJ
 obtain ⟨x,h1,h2⟩:=vQ (body:=dD l) l (fun c=>!iK c) (fun i hi=>by
  unfold dD qM
  rw [bE,if_pos (by omega),eQ hi,Option.bind_some,pI (h.2.2 _ (List.getElem_mem hi)),Option.bind_some,Option.bind_some,kR hi h.1]
  cases iK l[i] <;> rfl) (by
  unfold dD
  rw [bE,if_neg (by omega)])
 rw [h1,Option.bind_some,h2]
noncomputable def mU (q:aY):Bool :=
 inB q.Kind 1 17&&(inB q.Time 0 1099511627776&&(uM q (nH q.Kind)&&(nA q.Data &&
  ((if q.Kind=14 then decide (q.Workflow=[]) else jH q.Workflow)&&(aCh q.Run&&((if q.Kind=14∨q.Kind=1 then decide (q.Run=[]) else true) &&
   ((!(nH q.Kind).token_||decide (1≤q.Token))&&((!(nH q.Kind).event_||inB q.Event 1 2000)&&((!(nH q.Kind).seq_||inB q.Seq (if q.Kind=1 then 0 else 1) 2000)&&(aGx q.Parent &&
    (decide (q.Commands.length≤200)&&(q.Commands.all iK&&(aJa q.Kind q.N&&zJ q (nH q.Kind))))))))))))))
theorem pM {q:aY} (h:fO q):nW q=some (mU q):=by
 have hd:bR q.Data:=h.2.2.2.2.2.2.2.2.2.2.1
 have hw:q.Workflow.length≤140737488355328:=Nat.le_trans h.2.2.1 (by decide)
 have hr:q.Run.length≤140737488355328:=Nat.le_trans h.2.2.2.1 (by decide)
 have hp:q.Parent.length≤140737488355328:=Nat.le_trans h.2.2.2.2.2.2.2.2.2.2.2.2.2 (by decide)
 have hc:=h.2.2.2.2.2.2.2.2.2.2.2.2.1
 unfold nW mU
 rw [aCS,Option.bind_some]
 simp only [qE,aEz h,aBe hd,tC (show q.Workflow.length≤9223372036854775807 by omega),aA4 hr,aCU hp,aKG hc,aCT,aDE h,Option.bind_some,gdS]
 generalize nH q.Kind=u
 generalize uM q u=b3
 cases inB q.Kind 1 17
 ·
  simp
 cases inB q.Time 0 1099511627776
 ·
  simp
 cases b3
 ·
  simp
 cases nA q.Data
 ·
  simp
 simp only [Bool.not_true,cond_false,Bool.true_and,beq_self_eq_true,if_true,cond_true,Bool.and_self]
 generalize zJ q u=b9
 generalize aJa q.Kind q.N=b8
 generalize aGx q.Parent=b7
 generalize aCh q.Run=b6
 have e1:(q.Commands.any fun c=>!iK c)=!q.Commands.all iK:=by rw [Bool.eq_iff_iff];simp
 rw [e1]
 generalize q.Commands.all iK=c2
 have e2:decide ((200:Int)<(q.Commands.length:Int))=!decide (q.Commands.length≤200):=by rw [Bool.eq_iff_iff];simp;omega
 rw [e2]
 generalize decide (q.Commands.length≤200)=c1
 have e3:decide (q.Token<1)=!decide (1≤q.Token):=by rw [Bool.eq_iff_iff];simp
 rw [e3]
 generalize decide (1≤q.Token)=c3
 generalize inB q.Event 1 2000=c4
 generalize u.token_=u3
 generalize u.event_=u4
 generalize u.seq_=u5
 have tail:∀ c5:Bool,(cond (cond (cond (cond (cond u3 (!c3) false) true (cond u4 (!(if ((cond u3 (!c3) false)==false&&u4==true)=true then c4 else default)) false)) true (cond u5 (!(if ((cond (cond u3 (!c3) false) true (cond u4 (!(if ((cond u3 (!c3) false)==false&&u4==true)=true then c4 else default)) false))==false&&u5==true)=true then c5 else default)) false)) true
   (!(if ((cond (cond (cond u3 (!c3) false) true (cond u4 (!(if ((cond u3 (!c3) false)==false&&u4==true)=true then c4 else default)) false)) true (cond u5 (!(if ((cond (cond u3 (!c3) false) true (cond u4 (!(if ((cond u3 (!c3) false)==false&&u4==true)=true then c4 else default)) false))==false&&u5==true)=true then c5 else default)) false))==false)=true then b7 else default)))
   (some false) (cond (cond (!c1) true (if ((!c1)==false)=true then (!c2) else default)) (some false) (some (cond b8 (if (b8==true)=true then b9 else default) false))))=some ((!u3||c3)&&((!u4||c4)&&((!u5||c5)&&(b7&&(c1&&(c2&&(b8&&b9))))))):=by
  intro c5
  cases u3 <;> cases c3 <;> cases u4 <;> cases c4 <;> cases u5 <;> cases c5 <;> cases b7 <;> cases c1 <;> cases c2 <;> cases b8 <;> cases b9 <;> rfl
 by_cases h14:q.Kind=14
 ·
  have h1:¬q.Kind=1:=by omega
  simp only [h14,Int.reduceEq,decide_true,decide_false,if_true,if_false,true_or,Option.bind_some,cond_true,cond_false,Bool.not_true]
  by_cases hW:q.Workflow=[]
  ·
   by_cases hR:q.Run=[]
   ·
    cases b6
    ·
     simp [hW,hR]
    ·
     simp only [hW,hR,decide_true,Bool.not_true,beq_self_eq_true,if_true,cond_false,cond_true,Bool.true_and]
     exact tail _
   ·
    cases b6 <;> simp [hW,hR]
  ·
   simp [hW]
 ·
  simp only [h14,decide_false,if_false,false_or,Option.bind_some,cond_true,cond_false,Bool.not_false,beq_self_eq_true,Bool.and_self,if_true]
  cases jH q.Workflow
  ·
   simp
  by_cases h1:q.Kind=1
  ·
   simp only [h1,decide_true,if_true,cond_true,Option.bind_some]
   by_cases hR:q.Run=[]
   ·
    cases b6
    ·
     simp [hR]
    ·
     simp only [hR,decide_true,Bool.not_true,beq_self_eq_true,if_true,cond_false,cond_true,Bool.true_and]
     exact tail _
   ·
    cases b6 <;> simp [hR]
  ·
   simp only [h1,decide_false,if_false,cond_false,Option.bind_some]
   cases b6
   ·
    simp
   ·
    simp only [Bool.not_true,beq_self_eq_true,if_true,cond_false,cond_true,Bool.true_and]
    exact tail _
end Go.Proofs.YtnigjppddilpcaaGreatDoor
namespace Go.Proofs.YtnigjppddilpcaaGreatDoor
open Go Abs
set_option linter.unusedSimpArgs false
set_option linter.unusedVariables false
theorem cS (c x:Bool):cond c (some false) (some x)=some (!c&&x):=by cases c <;> rfl
theorem aDF {a:List aP}:iQ a []=some (decide ((a.length:Int)=0)):=by
 unfold iQ
 by_cases h:a=[]
 ·
  subst h
  rw [qB (r:=.go ()) (by unfold jL;rfl)]
  rfl
 ·
  have:¬(a.length:Int)=0:=fun hh=>h (List.eq_nil_of_length_eq_zero (by omega))
  simp [this,h]
theorem aCV {a:List aP} (h:wF 240 eP a):iQ a a=some true:=by
 unfold iQ
 rw [decide_eq_true rfl,Bool.not_true,cond_false,jK a.length (fun _=>true) false (fun i hi=>?_) ?_]
 ·
  simp [Fl.next]
 ·
  unfold jL
  rw [bE,if_neg (by omega)]
 ·
  unfold jL
  have hc:=h.2.2 _ (List.getElem_mem hi)
  rw [bE,if_pos (by omega),eQ hi,Option.bind_some,Option.bind_some,aCR hc.2.2.2.2.2.1 hc.2.2.2.2.2.2,kR hi h.1]
  simp [aAk,aB9]
theorem aA2 {q:aY} (h:fO q):mJ q q=some true:=by
 have hd:bR q.Data:=h.2.2.2.2.2.2.2.2.2.2.1
 have ho:eU q.Opts:=h.2.2.2.2.2.2.2.2.2.2.2.1
 have hc:=h.2.2.2.2.2.2.2.2.2.2.2.2.1
 unfold mJ
 rw [aCg hd,tB ho,aCV hc,aAk,aB9]
 simp [gd]
theorem aMk {a:aY}{k:Int} (hd:bR a.Data) (ho:eU a.Opts):mJ a ⟨k,0,[],[],[],[],0,0,0,0,qH,sN,[],[]⟩=some (decide (a.Kind=k)&&(decide (a.Time=0)&&(decide (a.Workflow=[])&&(decide (a.Run=[])&&(decide (a.ID=[])&&(decide (a.Name=[])&&(decide (a.Parent=[]) &&
  (decide (a.Token=0)&&(decide (a.Event=0)&&(decide (a.Seq=0)&&(decide (a.N=0)&&(oM a.Data qH&&(yI a.Opts sN&&decide ((a.Commands.length:Int)=0)))))))))))))):=by
 unfold mJ
 simp only
 rw [aCg hd,tB ho,aDF]
 simp only [gdS,Option.bind_some,cA,cT,cF,cS,Bool.not_or,Bool.not_not,Bool.and_assoc]
 have e:∀ x y z:Bool,(x&&((if (x==true)=true then y else default)&&(if ((x&&if (x==true)=true then y else default)==true)=true then z else default)))=(x&&(y&&z)):=fun x y z=>by cases x <;> cases y <;> cases z <;> rfl
 rw [e]
def aG0 (q:aY):aY :=
 ⟨q.Kind,0,if q.Kind=14 then q.Workflow else [],if q.Kind=14∨q.Kind=1 then q.Run else [],if (nH q.Kind).id_ then [] else q.ID,if (nH q.Kind).name_ then [] else q.Name,if (nH q.Kind).token_ then 0 else q.Token,if (nH q.Kind).event_ then 0 else q.Event,
  if (nH q.Kind).seq_ then 0 else q.Seq,if (nH q.Kind).n_ then 0 else q.N,if (nH q.Kind).data_ then qH else q.Data,q.Opts,if (nH q.Kind).commands_ then [] else q.Commands,if (nH q.Kind).parent_ then [] else q.Parent⟩
theorem aHQ (q:aY):aCe q=some (aG0 q):=by
 unfold aCe aG0 nH
 obtain ⟨k,tm,wf,rn,id,nm,tk,ev,sq,n,d,o,cs,pr⟩:=q
 simp only
 by_cases h1:k=1
 ·
  subst h1;rfl
 by_cases h2:k=2
 ·
  subst h2;rfl
 by_cases h5:k=5
 ·
  subst h5;rfl
 by_cases h3:k=3
 ·
  subst h3;rfl
 by_cases h4:k=4
 ·
  subst h4;rfl
 by_cases h6:k=6
 ·
  subst h6;rfl
 by_cases h7:k=7
 ·
  subst h7;rfl
 by_cases h8:k=8
 ·
  subst h8;rfl
 by_cases h9:k=9
 ·
  subst h9;rfl
 by_cases h10:k=10
 ·
  subst h10;rfl
 by_cases h12:k=12
 ·
  subst h12;rfl
 by_cases h13:k=13
 ·
  subst h13;rfl
 by_cases h11:k=11
 ·
  subst h11;rfl
 by_cases h14:k=14
 ·
  subst h14;rfl
 by_cases h15:k=15
 ·
  subst h15;rfl
 by_cases h16:k=16
 ·
  subst h16;rfl
 by_cases h17:k=17
 ·
  subst h17;rfl
 simp [h1,h2,h3,h4,h5,h6,h7,h8,h9,h10,h11,h12,h13,h14,h15,h16,h17,Fl.next]
theorem dI {α:Type} [DecidableEq α] {u:Bool}{x z:α}:decide ((if u=true then z else x)=z)=(u||decide (x=z)):=by cases u <;> simp
theorem dV {u:Bool}{x:aC}:oM (if u=true then qH else x) qH=(u||oM x qH):=by cases u <;> simp [aAk]
theorem dC {u:Bool}{x:List aP}:decide (((if u=true then [] else x).length:Int)=0)=(u||decide ((x.length:Int)=0)):=by cases u <;> simp
theorem aLM {q:aY} (h:fO q):mJ (aG0 q) ⟨q.Kind,0,[],[],[],[],0,0,0,0,qH,sN,[],[]⟩=some (uM q (nH q.Kind)&&((if q.Kind=14 then decide (q.Workflow=[]) else true)&&(if q.Kind=14∨q.Kind=1 then decide (q.Run=[]) else true))):=by
 have hd:bR q.Data:=h.2.2.2.2.2.2.2.2.2.2.1
 have ho:eU q.Opts:=h.2.2.2.2.2.2.2.2.2.2.2.1
 rw [aMk (a:=aG0 q) (by unfold aG0;simp only;split;exact aI0;exact hd) ho]
 unfold aG0 uM
 simp only [dI,dV,dC,decide_true,Bool.true_and]
 have e1:decide ((if q.Kind=14 then q.Workflow else [])=[])=(if q.Kind=14 then decide (q.Workflow=[]) else true):=by split <;> simp
 have e2:decide ((if q.Kind=14∨q.Kind=1 then q.Run else [])=[])=(if q.Kind=14∨q.Kind=1 then decide (q.Run=[]) else true):=by split <;> simp
 rw [e1,e2]
 congr 1
 ac_rfl
theorem aKn {α τ:Type} (l:List α) (p:α→Bool) (b:τ) {body:Int→Option (bS Int (Fl τ Unit))} (h:∀ (i:Nat) (hi:i<l.length),body (i:Int)=some (if p l[i] then .next ((i+1:Nat):Int) else .out (.done b)))
  (hout:body (l.length:Int)=some (.out (.go ()))):dL body (0:Int)=some (if l.all p then .go () else .done b):=by
 refine aBu (fun s=>∃ i:Nat,s=(i:Int)∧i≤l.length∧∀ (j:Nat) (hj:j<l.length),j<i→p l[j]=true) (fun s=>l.length - s.toNat) (fun _=>(if l.all p then Fl.go () else Fl.done b:Fl τ Unit)) ?_ _ ⟨0,rfl,by omega,by omega⟩
 rintro s ⟨i,rfl,hi,hp⟩
 by_cases hlt:i<l.length
 ·
  rw [h i hlt]
  by_cases hpi:p l[i]=true
  ·
   rw [if_pos hpi]
   exact .inl ⟨_,rfl,⟨i+1,rfl,hlt,fun j hj hji=>by rcases Nat.lt_succ_iff_lt_or_eq.1 hji with h1 | rfl;exact hp j hj h1;exact hpi⟩,by simp;omega,rfl⟩
  ·
   rw [if_neg hpi,if_neg (fun ha=>hpi (List.all_eq_true.1 ha _ (List.getElem_mem hlt)))]
   exact .inr rfl
 ·
  obtain rfl:i=l.length:=by omega
  rw [hout,if_pos (List.all_eq_true.2 fun x hx=>by obtain ⟨j,hj,rfl⟩:=List.mem_iff_getElem.1 hx;exact hp j hj hj)]
  exact .inr rfl
theorem aDj {l:List aP} (h:wF 240 eP l):pW l=some (l.all iK&&decide (l.length≤200)):=by
 unfold pW
 rw [aKn l iK false (fun i hi=>?_) ?_,Option.bind_some]
 ·
  have e:decide ((l.length:Int)≤200)=decide (l.length≤200):=by rw [Bool.eq_iff_iff];simp;omega
  rw [e]
  cases l.all iK <;> simp [Fl.next]
 ·
  unfold nK
  rw [bE,if_neg (by omega)]
 ·
  unfold nK
  rw [bE,if_pos (by omega),eQ hi,Option.bind_some,xZ (h.2.2 _ (List.getElem_mem hi)),Option.bind_some,kR hi h.1]
  cases iK l[i] <;> rfl
noncomputable def aNK (q:aY):Bool :=
 if q.Kind=1 then (jH q.ID&&(lQ q.Name&&(inB q.N 0 2&&(aGx q.Parent&&inB q.Seq 0 2000))))
 else if q.Kind=2∨q.Kind=5 then (jH q.ID&&lQ q.Name)
 else if q.Kind=3 then jH q.ID
 else if q.Kind=4 then decide ((q.Name.length:Int)≤64)
 else if q.Kind=6 then inB q.Event 1 2000
 else if q.Kind=7 then (decide (1≤q.Token)&&(q.Commands.all iK&&decide (q.Commands.length≤200)))
 else if q.Kind=8 then (decide (1≤q.Token)&&inB q.N 1 30)
 else if q.Kind=9 then (inB q.Seq 1 2000&&inB q.N 1 1000)
 else if q.Kind=10∨q.Kind=12∨q.Kind=13 then (decide (1≤q.Token)&&inB q.Seq 1 2000)
 else if q.Kind=11 then (decide (1≤q.Token)&&(inB q.Seq 1 2000&&jH q.Name))
 else if q.Kind=15 then (inB q.Seq 1 2000&&(inB q.N 20 22&&(decide ((q.Name.length:Int)≤4096)&&aCh q.ID)))
 else if q.Kind=16 then (inB q.Seq 1 2000&&(inB q.N 24 25&&decide ((q.Name.length:Int)≤4096)))
 else decide (1≤q.N)
noncomputable def aEZ (q:aY):Bool :=
 inB q.Kind 1 17&&(inB q.Time 0 1099511627776&&((uM q (nH q.Kind)&&((if q.Kind=14 then decide (q.Workflow=[]) else true)&&(if q.Kind=14∨q.Kind=1 then decide (q.Run=[]) else true)))&&(nA q.Data&&(aCh q.Run&&(if q.Kind=14 then true else (jH q.Workflow&&aNK q))))))
theorem aQn {k a b:Int}:(cond (decide (k=a)) (some (decide (k=a))) (some (decide (k=b))))=some (decide (k=a∨k=b)):=by
 by_cases h:k=a
 ·
  rw [decide_eq_true h];simp [h]
 ·
  rw [decide_eq_false h];simp [h]
theorem aQ2 {k a b c:Int}:(cond (decide (k=a)) (some (decide (k=a))) (cond (decide (k=b)) (some (decide (k=b))) (some (decide (k=c)))))=some (decide (k=a∨k=b∨k=c)):=by
 by_cases h:k=a
 ·
  rw [decide_eq_true h];simp [h]
 ·
  rw [decide_eq_false h,aQn];simp [h]
theorem yA {q:aY} (h:fO q):xO q=some (aEZ q):=by
 have hd:bR q.Data:=h.2.2.2.2.2.2.2.2.2.2.1
 have hw:q.Workflow.length≤140737488355328:=Nat.le_trans h.2.2.1 (by decide)
 have hr:q.Run.length≤140737488355328:=Nat.le_trans h.2.2.2.1 (by decide)
 have hi:q.ID.length≤140737488355328:=Nat.le_trans h.2.2.2.2.1 (by decide)
 have hp:q.Parent.length≤140737488355328:=Nat.le_trans h.2.2.2.2.2.2.2.2.2.2.2.2.2 (by decide)
 have hc:=h.2.2.2.2.2.2.2.2.2.2.2.2.1
 unfold xO aEZ
 rw [show (aC.mk 0 0 [] [] [])=qH from rfl,show (bL.mk [] 0 0 0 0 0 0 0 0 [])=sN from rfl,aHQ]
 simp only [aFT,aBR hd,aEh hr,aEh hi,aEi,tL,aJj hp,aDj hc,aQn,aQ2]
 cases inB q.Kind 1 17
 ·
  rfl
 cases inB q.Time 0 1099511627776
 ·
  rfl
 simp only [Option.bind_some,Bool.not_true,cond_false,beq_self_eq_true,Bool.true_and]
 have g1:∀ {α:Type} [Inhabited α] (m:Option α),gd true m=m:=fun m=>rfl
 rw [g1,Option.bind_some]
 simp only [Bool.not_true,cond_false,beq_self_eq_true]
 rw [g1,Option.bind_some,g1,aLM h,Option.bind_some]
 generalize (uM q (nH q.Kind)&&((if q.Kind=14 then decide (q.Workflow=[]) else true)&&(if q.Kind=14∨q.Kind=1 then decide (q.Run=[]) else true)))=b
 cases b
 ·
  rfl
 cases nA q.Data
 ·
  rfl
 cases aCh q.Run
 ·
  rfl
 simp only [gdS,Option.bind_some,Bool.not_true,cond_false,beq_self_eq_true,if_true,Bool.true_and]
 rw [bE]
 by_cases h14:q.Kind=14
 ·
  rw [if_pos h14,if_pos h14]
 rw [if_neg h14,if_neg h14]
 cases jH q.Workflow
 ·
  rfl
 simp only [Bool.not_true,cond_false,Bool.true_and]
 unfold aNK aGx
 simp only [cA,cT,cF,Bool.and_assoc]
 simp only [bE]
 generalize jH q.ID=a1
 generalize lQ q.Name=a2
 generalize inB q.N 0 2=a3
 generalize (decide (q.Parent=[])||(uV q.Parent).2.2&&decide ((q.Parent.length:Int)≤4096))=a4
 generalize inB q.Seq 0 2000=a5
 generalize decide (1≤q.Token)=a6
 generalize (q.Commands.all iK&&decide (q.Commands.length≤200))=a7
 generalize inB q.N 1 30=a8
 generalize inB q.Seq 1 2000=a9
 generalize inB q.N 1 1000=b1
 generalize jH q.Name=b2
 generalize inB q.N 20 22=b3
 generalize decide ((q.Name.length:Int)≤4096)=b4
 generalize aCh q.ID=b5
 generalize inB q.N 24 25=b6
 by_cases h1:q.Kind=1
 ·
  rw [if_pos h1,if_pos h1];cases a1 <;> cases a2 <;> cases a3 <;> cases a4 <;> cases a5 <;> rfl
 rw [if_neg h1,if_neg h1]
 by_cases h2:q.Kind=2∨q.Kind=5
 ·
  rw [if_pos h2,if_pos h2]
 rw [if_neg h2,if_neg h2]
 by_cases h3:q.Kind=3
 ·
  rw [if_pos h3,if_pos h3]
 rw [if_neg h3,if_neg h3]
 by_cases h4:q.Kind=4
 ·
  rw [if_pos h4,if_pos h4]
 rw [if_neg h4,if_neg h4]
 by_cases h6:q.Kind=6
 ·
  rw [if_pos h6,if_pos h6]
 rw [if_neg h6,if_neg h6]
 by_cases h7:q.Kind=7
 ·
  rw [if_pos h7,if_pos h7];cases a6 <;> rfl
 rw [if_neg h7,if_neg h7]
 by_cases h8:q.Kind=8
 ·
  rw [if_pos h8,if_pos h8];cases a6 <;> rfl
 rw [if_neg h8,if_neg h8]
 by_cases h9:q.Kind=9
 ·
  rw [if_pos h9,if_pos h9];cases a9 <;> rfl
 rw [if_neg h9,if_neg h9]
 have e10:(if q.Kind=10 then some (decide (q.Kind=10)) else some (decide (q.Kind=12∨q.Kind=13)))=some (decide (q.Kind=10∨q.Kind=12∨q.Kind=13)):=by
  by_cases h:q.Kind=10 <;> simp [h]
 rw [e10,Option.bind_some,bE]
 by_cases h10:q.Kind=10∨q.Kind=12∨q.Kind=13
 ·
  rw [if_pos h10,if_pos h10]
 rw [if_neg h10,if_neg h10]
 by_cases h11:q.Kind=11
 ·
  rw [if_pos h11,if_pos h11];cases a6 <;> cases a9 <;> rfl
 rw [if_neg h11,if_neg h11]
 by_cases h15:q.Kind=15
 ·
  rw [if_pos h15,if_pos h15];cases a9 <;> cases b3 <;> cases b4 <;> rfl
 rw [if_neg h15,if_neg h15]
 by_cases h16:q.Kind=16
 ·
  rw [if_pos h16,if_pos h16];cases a9 <;> rfl
 rw [if_neg h16,if_neg h16]
theorem aPz {n:Int}:(decide (n=20)||decide (n=21)||decide (n=22))=inB n 20 22:=by unfold inB;rw [Bool.eq_iff_iff];simp;omega
theorem aPA {n:Int}:(decide (n=24)||decide (n=25))=inB n 24 25:=by unfold inB;rw [Bool.eq_iff_iff];simp;omega
theorem aDx (q:aY):mU q=aEZ q:=by
 unfold mU aEZ
 cases hK:inB q.Kind 1 17
 ·
  rfl
 cases inB q.Time 0 1099511627776
 ·
  rfl
 cases hb:uM q (nH q.Kind)
 ·
  rfl
 cases nA q.Data
 ·
  simp
 simp only [Bool.true_and]
 have hP:(nH q.Kind).parent_=false→aGx q.Parent=true:=fun hu=>by
  unfold uM at hb
  rw [hu] at hb
  simp only [Bool.and_eq_true,Bool.false_or,decide_eq_true_eq] at hb
  unfold aGx
  simp [hb.1.2]
 have hC:(nH q.Kind).commands_=false→q.Commands.all iK=true∧decide (q.Commands.length≤200)=true:=fun hu=>by
  unfold uM at hb
  rw [hu] at hb
  simp only [Bool.and_eq_true,Bool.false_or,decide_eq_true_eq] at hb
  have:q.Commands=[]:=List.eq_nil_of_length_eq_zero (by omega)
  simp [this]
 clear hb
 unfold inB at hK
 simp only [Bool.and_eq_true,decide_eq_true_eq] at hK
 unfold aNK aJa zJ
 rw [aPz,aPA]
 generalize q.Commands.all iK=c1 at *
 generalize decide (q.Commands.length≤200)=c2 at *
 generalize aGx q.Parent=c3 at *
 generalize aCh q.Run=c4
 generalize aCh q.ID=c5
 generalize jH q.Workflow=c6
 generalize jH q.ID=c7
 generalize jH q.Name=c8
 generalize lQ q.Name=c9
 generalize decide (q.Workflow=[])=d1
 generalize decide (q.Run=[])=d2
 generalize decide (1≤q.Token)=d3
 generalize inB q.Event 1 2000=d4
 generalize decide ((q.Name.length:Int)≤4096)=d5
 generalize decide ((q.Name.length:Int)≤64)=d6
 generalize q.Kind=k at *
 have hk:k=1∨k=2∨k=3∨k=4∨k=5∨k=6∨k=7∨k=8∨k=9∨k=10∨k=11∨k=12∨k=13∨k=14∨k=15∨k=16∨k=17:=by omega
 rcases hk with rfl | rfl | rfl | rfl | rfl | rfl | rfl | rfl | rfl | rfl | rfl | rfl | rfl | rfl | rfl | rfl | rfl <;> simp [nH] at hP hC ⊢ <;> simp [hP,hC] <;> ac_rfl
end Go.Proofs.YtnigjppddilpcaaGreatDoor

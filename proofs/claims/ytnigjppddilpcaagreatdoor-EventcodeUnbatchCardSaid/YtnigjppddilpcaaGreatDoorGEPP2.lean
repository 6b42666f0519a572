/- Plain laws: what the functions compute, with no program in sight. -/
import Derived.Test.YtnigjppddilpcaaGreatDoorGEPP1
import Derived.Test.YtnigjppddilpcaaGreatDoorGEF2
import Derived.Test.YtnigjppddilpcaaGreatDoorGEF3
import Derived.Test.YtnigjppddilpcaaGreatDoorGEF9
import Derived.Test.YtnigjppddilpcaaGreatDoorPk2
import Derived.Test.YtnigjppddilpcaaGreatDoorGEF5
import Derived.Test.YtnigjppddilpcaaGreatDoorGEF10
import Derived.Test.YtnigjppddilpcaaGreatDoorGEF11
import Derived.Test.YtnigjppddilpcaaGreatDoorGEF12
import Derived.Test.YtnigjppddilpcaaGreatDoorGEF14
import Derived.Test.YtnigjppddilpcaaGreatDoorGEF17
import Derived.Test.YtnigjppddilpcaaGreatDoorGEPP0
import Derived.Test.YtnigjppddilpcaaGreatDoorGESh
import Derived.Test.YtnigjppddilpcaaGreatDoorGEF4
import Derived.Test.YtnigjppddilpcaaGreatDoorGEF6
import Derived.Test.YtnigjppddilpcaaGreatDoorLib
import Derived.Test.YtnigjppddilpcaaGreatDoorGEF8
namespace Go.Proofs.YtnigjppddilpcaaGreatDoor
open Go Abs
set_option linter.unusedSimpArgs false
set_option linter.unusedVariables false
def iH:aF:=⟨0,0,[],[],[]⟩
def aBA:bV:=⟨[],0,0,0,0,0,0,0,0,[]⟩
theorem aRv:dS iH:=by
 refine (fS _).2 ⟨?_,?_,?_,?_,?_⟩ <;> simp [iH,tN,okS,zU]
def jN (k:Int):kK :=
 if k=1 then ⟨true,true,false,false,true,true⟩
 else if k=2 then ⟨true,false,false,false,false,false⟩
 else if k=3 then ⟨true,false,false,true,false,false⟩
 else if k=4 then ⟨true,false,false,false,false,false⟩
 else if k=5 then ⟨true,true,true,true,true,false⟩
 else if k=6 then ⟨true,true,true,false,true,false⟩
 else if k=7 then ⟨false,true,false,true,true,false⟩
 else if k=8 then ⟨false,true,true,false,true,false⟩
 else if k=9 then ⟨false,false,true,true,true,false⟩
 else if k=12 then ⟨false,true,false,false,true,false⟩
 else ⟨false,false,false,false,true,false⟩
theorem aP2 (k:Int):xA k=some (jN k):=by
 unfold xA jN
 by_cases h1:k=1
 ·
  simp [h1]
 by_cases h2:k=2
 ·
  simp [h2]
 by_cases h3:k=3
 ·
  simp [h3]
 by_cases h4:k=4
 ·
  simp [h4]
 by_cases h5:k=5
 ·
  simp [h5]
 by_cases h6:k=6
 ·
  simp [h6]
 by_cases h7:k=7
 ·
  simp [h7]
 by_cases h8:k=8
 ·
  simp [h8]
 by_cases h9:k=9
 ·
  simp [h9]
 by_cases h12:k=12
 ·
  simp [h12]
 simp [h1,h2,h3,h4,h5,h6,h7,h8,h9,h12]
def yD (c:fG) (u:kK):Bool :=
 (u.seq_||decide (c.Seq=0))&&(u.name_||decide (c.Name=[]))&&(u.key_||decide (c.Key=[]))&&(u.n_||decide (c.N=0))&&(u.data_||hD c.Data iH)&&(u.opts_||aCr c.Opts aBA)
theorem aSJ {c:fG}{u:kK} (h:aAl c):aAd c u=some (yD c u):=by
 unfold aAd yD
 have hd:dS c.Data:=h.2.2.2.2.2.1
 have ho:iR c.Opts:=h.2.2.2.2.2.2
 rw [show (aF.mk 0 0 [] [] [])=iH from rfl,show (bV.mk [] 0 0 0 0 0 0 0 0 [])=aBA from rfl,aFf hd,aE0 ho]
 cases u.seq_ <;> cases u.name_ <;> cases u.key_ <;> cases u.n_ <;> cases decide (c.Seq=0) <;> cases decide (c.Name=[]) <;> cases decide (c.Key=[]) <;> cases decide (c.N=0) <;> first | rfl | (cases u.data_ <;> cases u.opts_ <;> cases hD c.Data iH <;> rfl)
def aQg (c:fG):Bool :=
 if c.Kind=3 then inB c.N 1 1099511627776
 else if c.Kind=5 then inB c.N 0 2
 else if c.Kind=9 then inB c.N 0 1
 else if c.Kind=7 then decide (c.N=-1)||(inB c.N 0 2147483647&&decide (c.Data.Kind=0))
 else if c.Kind=10 then decide (c.Data.Kind=5)
 else if c.Kind=14 then aBU c.Data
 else true
theorem aQh {c:fG} (h:aAl c):xB c=some (aQg c):=by
 unfold xB aQg
 rw [aRi h.2.2.2.2.2.1]
 simp only [tW,dF,aA]
 by_cases h3:c.Kind=3
 ·
  simp only [h3,bQ]
 by_cases h5:c.Kind=5
 ·
  simp only [h5,bQ,Int.reduceEq,cD]
 by_cases h9:c.Kind=9
 ·
  simp only [h9,bQ,Int.reduceEq,cD]
 by_cases h7:c.Kind=7
 ·
  simp only [h7,bQ,Int.reduceEq,cD]
  by_cases hn:c.N=-1
  ·
   simp [hn,gd]
  ·
   cases inB c.N 0 2147483647 <;> by_cases hk:c.Data.Kind=0 <;> simp [hn,hk,gd]
 by_cases h10:c.Kind=10
 ·
  simp only [h10,bQ,Int.reduceEq,cD]
 by_cases h14:c.Kind=14
 ·
  simp only [h14,bQ,Int.reduceEq,cD]
 simp only [h3,h5,h9,h7,h10,h14,cD]
noncomputable def jP (c:fG):Bool :=
 inB c.Kind 1 14&&yD c (jN c.Kind)&&dX c.Data&&pS c.Opts&&(!(jN c.Kind).seq_||inB c.Seq 1 2000)&&(!(jN c.Kind).key_||wJ c.Key)
  && (!(jN c.Kind).name_||(if c.Kind=12 then !pF c.Name else pR c.Name))&&aQg c
theorem aGN {c:fG} (h:aAl c):yM c=some (jP c):=by
 have hd:dS c.Data:=h.2.2.2.2.2.1
 have ho:iR c.Opts:=h.2.2.2.2.2.2
 have hk:c.Key.length≤9223372036854775807:=mH h.2.2.2.1 (by decide)
 unfold yM jP
 rw [aP2,aA]
 simp only [aSJ h,aEy hd,aAa ho,aMr hk,yO,aQh h,tW,aA]
 generalize jN c.Kind=u
 obtain ⟨useq,uname,ukey,un,udata,uopts⟩:=u
 simp only
 generalize yD c _=b
 cases inB c.Kind 1 14
 ·
  simp [gd]
 cases b
 ·
  simp [gd]
 cases dX c.Data
 ·
  simp [gd]
 cases pS c.Opts
 ·
  simp [gd]
 simp only [bE,aZ,fW,gd,bQ,aA,cL]
 have hl:decide ((4096:Int)<(c.Name.length:Int))=pF c.Name:=rfl
 rw [hl]
 by_cases h12:c.Kind=12
 ·
  simp only [h12,bC,bE,bS,aZ,bQ]
  cases useq <;> cases ukey <;> cases uname <;> cases inB c.Seq 1 2000 <;> cases wJ c.Key <;> cases pF c.Name <;> cases aQg c <;> rfl
 ·
  simp only [h12,bP,cH,bS,aZ,cD]
  cases useq <;> cases ukey <;> cases uname <;> cases inB c.Seq 1 2000 <;> cases wJ c.Key <;> cases pR c.Name <;> cases aQg c <;> rfl
theorem aMU:pS aBA=true:=by decide
theorem aIZ {p:bV} (h:aCr p aBA=true):p=aBA:=by
 unfold aCr at h
 simp only [aY,cB] at h
 obtain ⟨⟨⟨⟨⟨⟨⟨⟨⟨h1,h2⟩,h3⟩,h4⟩,h5⟩,h6⟩,h7⟩,h8⟩,h9⟩,h10⟩:=h
 cases p;simp_all [aBA]
theorem aJr (v:aF):hD v v=true:=(aKU (hgt v) v v (fB _)).2 rfl
theorem aIY (p:bV):aCr p p=true:=by simp [aCr]
theorem aLu {a b:fG} (hd:dS a.Data) (ho:iR a.Opts):aAS a b=some (decide (a.Kind=b.Kind)&&decide (a.Seq=b.Seq)&&decide (a.Name=b.Name)&&decide (a.Key=b.Key)&&decide (a.N=b.N)&&hD a.Data b.Data&&aCr a.Opts b.Opts):=by
 unfold aAS
 rw [aJb hd,aAT ho]
 cases decide (a.Kind=b.Kind) <;> cases decide (a.Seq=b.Seq) <;> cases decide (a.Name=b.Name) <;> cases decide (a.Key=b.Key) <;> cases decide (a.N=b.N) <;> first | rfl | (cases hD a.Data b.Data <;> rfl)
def aKp (c:fG):fG :=
 ⟨c.Kind,if (jN c.Kind).seq_ then 0 else c.Seq,if (jN c.Kind).name_ then [] else c.Name,if (jN c.Kind).key_ then [] else c.Key,if (jN c.Kind).n_ then 0 else c.N,
  if (jN c.Kind).data_ then iH else c.Data,if (jN c.Kind).opts_ then aBA else c.Opts⟩
theorem aOv (c:fG):aB3 c=some (aKp c):=by
 unfold aB3 aKp jN
 obtain ⟨k,sq,nm,ky,n,d,o⟩:=c
 simp only
 by_cases h1:k=1
 ·
  subst h1;rfl
 by_cases h2:k=2
 ·
  subst h2;rfl
 by_cases h3:k=3
 ·
  subst h3;rfl
 by_cases h4:k=4
 ·
  subst h4;rfl
 by_cases h5:k=5
 ·
  subst h5;rfl
 by_cases h6:k=6
 ·
  subst h6;rfl
 by_cases h7:k=7
 ·
  subst h7;rfl
 by_cases h8:k=8
 ·
  subst h8;rfl
 by_cases h9:k=9
 ·
  subst h9;rfl
 by_cases h12:k=12
 ·
  subst h12;rfl
 simp [h1,h2,h3,h4,h5,h6,h7,h8,h9,h12,iH]
theorem aJU {c:fG} (h:aAl c):aBk c=some (jP c):=by
 have hd:dS c.Data:=h.2.2.2.2.2.1
 have ho:iR c.Opts:=h.2.2.2.2.2.2
 unfold aBk jP
 rw [aOv,aCy hd,yS,aMZ,aAz ho,aM0 hd]
 have hb:aAS (aKp c) ⟨c.Kind,0,[],[],0,iH,aBA⟩=some (yD c (jN c.Kind)):=by
  rw [aLu (by unfold aKp;simp only;split;exact aRv;exact hd) (by
   unfold aKp;simp only;split
   ·
    refine ⟨?_,?_,?_,?_,?_,?_,?_,?_,?_,?_⟩ <;> simp [aBA,tN,okS,zU]
   ·
    exact ho)]
  unfold aKp yD
  generalize jN c.Kind=u
  obtain ⟨useq,uname,ukey,un,udata,uopts⟩:=u
  have z1:=aJr iH
  have z2:=aIY aBA
  cases useq <;> cases uname <;> cases ukey <;> cases un <;> cases udata <;> cases uopts <;> simp [z1,z2]
 simp only [aDx,aA]
 cases hin:inB c.Kind 1 14
 ·
  simp [gd]
 rw [show (fG.mk c.Kind 0 [] [] 0 ⟨0,0,[],[],[]⟩ ⟨[],0,0,0,0,0,0,0,0,[]⟩)=⟨c.Kind,0,[],[],0,iH,aBA⟩ from rfl]
 simp only [bE,fW,gd,bQ,aA,hb,aZ,cL]
 cases hbb:yD c (jN c.Kind)
 ·
  simp [gd]
 simp only [bE,fW,gd,bQ,aA,aZ,cL]
 cases dX c.Data
 ·
  simp
 simp only [bE,aZ,cL]
 have hop:(jN c.Kind).opts_=true∨pS c.Opts=true:=by
  cases hu:(jN c.Kind).opts_
  ·
   refine .inr ?_
   unfold yD at hbb
   rw [hu] at hbb
   simp only [aY,cV] at hbb
   rw [aIZ hbb.2,aMU]
  ·
   exact .inl rfl
 have hl:decide ((c.Name.length:Int)≤4096)=!pF c.Name:=by unfold pF;rw [eZ];simp
 rw [hl]
 unfold aQg
 clear hb hbb hin h hd ho hl
 obtain ⟨k,sq,nm,ky,n,d,o⟩:=c
 simp only at hop ⊢
 generalize inB sq 1 2000=b1
 generalize pR nm=b2
 generalize wJ ky=b3
 generalize pS o=b4 at *
 generalize pF nm=b5
 generalize aBU d=b6
 by_cases h1:k=1
 ·
  subst h1
  cases b1 <;> cases b2 <;> cases b4 <;> rfl
 by_cases h2:k=2
 ·
  subst h2
  obtain rfl:b4=true:=by simpa [jN] using hop
  cases b1 <;> rfl
 by_cases h3:k=3
 ·
  subst h3
  obtain rfl:b4=true:=by simpa [jN] using hop
  cases b1 <;> simp [jN]
 by_cases h4:k=4
 ·
  subst h4
  obtain rfl:b4=true:=by simpa [jN] using hop
  cases b1 <;> rfl
 by_cases h5:k=5
 ·
  subst h5
  obtain rfl:b4=true:=by simpa [jN] using hop
  cases b1 <;> cases b2 <;> cases b3 <;> simp [jN]
 by_cases h6:k=6
 ·
  subst h6
  obtain rfl:b4=true:=by simpa [jN] using hop
  cases b1 <;> cases b2 <;> cases b3 <;> rfl
 by_cases h7:k=7
 ·
  subst h7
  obtain rfl:b4=true:=by simpa [jN] using hop
  by_cases hn:n=-1
  ·
   cases b2 <;> simp [jN,hn]
  ·
   cases b2 <;> cases inB n 0 2147483647 <;> by_cases hk:d.Kind=0 <;> simp [jN,hn,hk]
 by_cases h8:k=8
 ·
  subst h8
  obtain rfl:b4=true:=by simpa [jN] using hop
  cases b2 <;> cases b3 <;> rfl
 by_cases h9:k=9
 ·
  subst h9
  obtain rfl:b4=true:=by simpa [jN] using hop
  cases b3 <;> simp [jN]
 by_cases h10:k=10
 ·
  subst h10
  obtain rfl:b4=true:=by simpa [jN] using hop
  simp [jN]
 by_cases h12:k=12
 ·
  subst h12
  obtain rfl:b4=true:=by simpa [jN] using hop
  simp [jN]
 by_cases h14:k=14
 ·
  subst h14
  obtain rfl:b4=true:=by simpa [jN] using hop
  simp [jN]
 ·
  have:b4=true:=by simpa [jN,h1,h2,h3,h4,h5,h6,h7,h8,h9,h10,h12,h14] using hop
  subst this
  simp [jN,h1,h2,h3,h4,h5,h6,h7,h8,h9,h10,h12,h14]
set_option maxRecDepth 100000
theorem aD1 (n:Nat):(∀ a0 m,n≤m→LeO (lS n a0) (lS m a0)):=by
 induction n with
 | zero=>exact fun _ _ _=>by intro r h;simp [lS] at h
 | succ n ih =>
  intro a0 m hm
  obtain ⟨m,rfl⟩:∃ k,m=k+1:=⟨m - 1,by omega⟩
  rw [lS,lS]
  repeat' with_reducible (first | exact ih _ _ (by omega) | refine aDh ?_ (fun _=>?_) | refine aDi ?_ ?_ | refine aII ?_ | refine aDk (fun _=>?_) | refine aBX (fun _=>?_) | exact aCl _)
theorem aG3 {n:Nat}{p0n:Int}{r:(List UInt8)} (h:lS n p0n=some r):xY p0n=some r:=by
 unfold xY
 exact aOe (n:=n) h fun m hm=>(aD1 n) p0n m hm
theorem wU (qY yR:Int→Int→aM→Option (aF × Int × aM)) (x1:(Int × aM)) (rT:Int) (mY:Int) (s10:(Int × Int × aM × (List aF) × (List (List UInt8)))) (hrec_value_decoder_value:∀ a0 a1 a2,LeO (yR a0 a1 a2) (qY a0 a1 a2)):LeO (fD yR x1 rT mY s10) (fD qY x1 rT mY s10):=by
 unfold fD
 repeat' with_reducible (first | exact hrec_value_decoder_value _ _ _ | refine aDh ?_ (fun _=>?_) | refine aDi ?_ ?_ | refine aII ?_ | refine aDk (fun _=>?_) | refine aBX (fun _=>?_) | exact aCl _)
theorem aBr (n:Nat):(∀ a0 a1 a2 a3 a4 a5 m,n≤m→LeO (gV n a0 a1 a2 a3 a4 a5) (gV m a0 a1 a2 a3 a4 a5))∧(∀ a0 a1 a2 m,n≤m→LeO (eE n a0 a1 a2) (eE m a0 a1 a2)):=by
 induction n with
 | zero=>exact ⟨fun _ _ _ _ _ _ _ _=>by intro r h;simp [gV] at h,fun _ _ _ _ _=>by intro r h;simp [eE] at h⟩
 | succ n ih =>
  refine ⟨?_,?_⟩
  ·
   intro a0 a1 a2 a3 a4 a5 m hm
   obtain ⟨m,rfl⟩:∃ k,m=k+1:=⟨m - 1,by omega⟩
   rw [gV,gV]
   repeat' with_reducible (first | exact ih.1 _ _ _ _ _ _ _ (by omega) | exact ih.2 _ _ _ _ (by omega) | refine wU _ _ _ _ _ _ (fun _ _ _=>?_) | refine aDh ?_ (fun _=>?_) | refine aDi ?_ ?_ | refine aII ?_ | refine aDk (fun _=>?_) | refine aBX (fun _=>?_) | exact aCl _)
  ·
   intro a0 a1 a2 m hm
   obtain ⟨m,rfl⟩:∃ k,m=k+1:=⟨m - 1,by omega⟩
   rw [eE,eE]
   repeat' with_reducible (first | exact ih.1 _ _ _ _ _ _ _ (by omega) | exact ih.2 _ _ _ _ (by omega) | refine wU _ _ _ _ _ _ (fun _ _ _=>?_) | refine aDh ?_ (fun _=>?_) | refine aDi ?_ ?_ | refine aII ?_ | refine aDk (fun _=>?_) | refine aBX (fun _=>?_) | exact aCl _)
theorem zT {n:Nat}{kZ:Int}{dU:Int}{jE:aM}{r:(aF × Int × aM)} (h:eE n kZ dU jE=some r):uN kZ dU jE=some r:=by
 unfold uN
 exact aOe (n:=n) h fun m hm=>(aBr n).2 kZ dU jE m hm
theorem wT (qX yQ:Int→Int→aV→Option (aF × Int × aV)) (x1:(Int × aV)) (rT:Int) (mY:Int) (s8:(Int × Int × aV × (List aF) × (List (List UInt8)))) (hrec_ref02xdecoder_value:∀ a0 a1 a2,LeO (yQ a0 a1 a2) (qX a0 a1 a2)):LeO (gC yQ x1 rT mY s8) (gC qX x1 rT mY s8):=by
 unfold gC
 repeat' with_reducible (first | exact hrec_ref02xdecoder_value _ _ _ | refine aDh ?_ (fun _=>?_) | refine aDi ?_ ?_ | refine aII ?_ | refine aDk (fun _=>?_) | refine aBX (fun _=>?_) | exact aCl _)
theorem aBq (n:Nat):(∀ a0 a1 a2 a3 a4 a5 m,n≤m→LeO (jO n a0 a1 a2 a3 a4 a5) (jO m a0 a1 a2 a3 a4 a5))∧(∀ a0 a1 a2 m,n≤m→LeO (eW n a0 a1 a2) (eW m a0 a1 a2)):=by
 induction n with
 | zero=>exact ⟨fun _ _ _ _ _ _ _ _=>by intro r h;simp [jO] at h,fun _ _ _ _ _=>by intro r h;simp [eW] at h⟩
 | succ n ih =>
  refine ⟨?_,?_⟩
  ·
   intro a0 a1 a2 a3 a4 a5 m hm
   obtain ⟨m,rfl⟩:∃ k,m=k+1:=⟨m - 1,by omega⟩
   rw [jO,jO]
   repeat' with_reducible (first | exact ih.1 _ _ _ _ _ _ _ (by omega) | exact ih.2 _ _ _ _ (by omega) | refine wT _ _ _ _ _ _ (fun _ _ _=>?_) | refine aDh ?_ (fun _=>?_) | refine aDi ?_ ?_ | refine aII ?_ | refine aDk (fun _=>?_) | refine aBX (fun _=>?_) | exact aCl _)
  ·
   intro a0 a1 a2 m hm
   obtain ⟨m,rfl⟩:∃ k,m=k+1:=⟨m - 1,by omega⟩
   rw [eW,eW]
   repeat' with_reducible (first | exact ih.1 _ _ _ _ _ _ _ (by omega) | exact ih.2 _ _ _ _ (by omega) | refine wT _ _ _ _ _ _ (fun _ _ _=>?_) | refine aDh ?_ (fun _=>?_) | refine aDi ?_ ?_ | refine aII ?_ | refine aDk (fun _=>?_) | refine aBX (fun _=>?_) | exact aCl _)
theorem aCT {n:Nat}{kZ:Int}{dU:Int}{jE:aV}{r:(aF × Int × aV)} (h:eW n kZ dU jE=some r):uL kZ dU jE=some r:=by
 unfold uL
 exact aOe (n:=n) h fun m hm=>(aBq n).2 kZ dU jE m hm
theorem aDj {e:Int}{r:aM}{w:aV} (h:lT e r w):∃ x e' r' w',iK r=some (x,r')∧pV w=some (x,w')∧lT e' r' w'∧tN x∧(e≠0→x=0∧e'=e)∧(e'=0→e=0):=by
 obtain ⟨x,e',r',w',h1,h2,h3,h4,h5,h6⟩:=aBW (-9223372036854775808) 9223372036854775807 h
 exact ⟨x,e',r',w',by unfold iK;rw [h1];rfl,by unfold pV;rw [h2];rfl,h3,h4,h5,h6⟩
theorem aRo {e:Int}{r:aM}{w:aV} (h:lT e r w):∃ v e' r' w',rP r=some (v,r')∧aAn w=some (v,w')∧lT e' r' w'∧dS v∧(e≠0→e'=e):=by
 obtain ⟨v,k,v',k',e',r',w',h1,h2,h3,h4,h5,h6⟩:=aOK 33 1 0 r w e h (by omega) (by omega) (by omega)
 have h1:=zT h1
 have h2:=aCT h2
 unfold rP aAn
 rw [(sM h).1,h2]
 simp only [aA]
 rw [aCk k' h3]
 simp only [aA]
 by_cases he1:e=1
 ·
  have hne:e≠0:=by omega
  have hst:=h6 hne
  rw [hst] at h3
  simp only [he1,bC,bS,aA,Fl.next]
  refine ⟨zV,e,r,w',rfl,?_,h.trans_w h3 hne,aMM,fun _=>he1⟩
  simp [hst,he1,zV]
 ·
  simp only [he1,bP,aZ,aA,Fl.next]
  rw [h1]
  simp only [aA]
  rw [(sM h3).1]
  simp only [aA]
  by_cases he0:e'=0
  ·
   obtain ⟨rfl,rfl⟩:=h5 he0
   exact ⟨v,e',r',w',by simp [he0],by simp [he0],h3,h4,h6⟩
  ·
   exact ⟨zV,e',r',w',by simp [he0,zV],by simp [he0,zV],h3,aMM,h6⟩
theorem aKz {e:Int}{r:aM}{w:aV} (c:Bool) (h:lT e r w):∃ r' w',(cond (cond (decide (e=(0:Int))) (!(if e=0 then c else false)) false) ((lN (3:Int) r).bind fun x=>some x) (some r))=some r'∧(cond (!c) ((lR (3:Int) w).bind fun x=>some x) (some w))=some w'∧lT (eIf c e) r' w':=by
 obtain ⟨r',w',h3,h4,h5⟩:=aLk 3 h
 by_cases he:e=0
 ·
  cases c
  ·
   exact ⟨r',w',by simp [he,h3],by simp [h4],by simpa [eIf,he] using h5⟩
  ·
   exact ⟨r,w,by simp [he],by simp,by simpa [eIf,he] using h⟩
 ·
  have e1:eIf c e=e:=by unfold eIf;rw [aQ he]
  rw [e1]
  cases c
  ·
   refine ⟨r,w',by simp [he],by simp [h4],?_⟩
   rw [aQ he] at h5
   exact h.trans_w h5 he
  ·
   exact ⟨r,w,by simp [he],by simp,h⟩
def zP:bV:=⟨[],0,0,0,0,0,0,0,0,[]⟩
theorem aTS:iR zP:=by
 simp [iR,zP,tN,okS,zU]
theorem aQ6 {c:Bool}{e:Int} (h:e≠0):eIf c e=e:=by unfold eIf;rw [aQ h]
theorem aP8 {e:Int}{r:aM}{w:aV} (h:lT e r w):∃ o e' r' w',kW r=some (o,r')∧sP w=some (o,w')∧lT e' r' w'∧iR o∧(e≠0→e'=e):=by
 obtain ⟨q,e0,r0,w0,a0,b0,l0,k0,z0,y0⟩:=aF8 4096 h
 obtain ⟨n1,e1,r1,w1,a1,b1,l1,k1,z1,y1⟩:=aDj l0
 obtain ⟨n2,e2,r2,w2,a2,b2,l2,k2,z2,y2⟩:=aDj l1
 obtain ⟨n3,e3,r3,w3,a3,b3,l3,k3,z3,y3⟩:=aDj l2
 obtain ⟨n4,e4,r4,w4,a4,b4,l4,k4,z4,y4⟩:=aDj l3
 obtain ⟨n5,e5,r5,w5,a5,b5,l5,k5,z5,y5⟩:=aDj l4
 obtain ⟨n6,e6,r6,w6,a6,b6,l6,k6,z6,y6⟩:=aDj l5
 obtain ⟨n7,e7,r7,w7,a7,b7,l7,k7,z7,y7⟩:=aDj l6
 obtain ⟨n8,e8,r8,w8,a8,b8,l8,k8,z8,y8⟩:=aDj l7
 obtain ⟨n9,e9,r9,w9,a9,b9,l9,k9,z9,y9⟩:=aDj l8
 have hstay:e≠0→e9=e:=fun he=>by
  have h0:=(z0 he).2
  have h1:=(z1 (by omega)).2
  have h2:=(z2 (by omega)).2
  have h3:=(z3 (by omega)).2
  have h4:=(z4 (by omega)).2
  have h5:=(z5 (by omega)).2
  have h6:=(z6 (by omega)).2
  have h7:=(z7 (by omega)).2
  have h8:=(z8 (by omega)).2
  have h9:=(z9 (by omega)).2
  omega
 unfold kW sP
 rw [a0,b0]
 simp only [aA,sK]
 rw [a1,b1]
 simp only [aA]
 rw [a2,b2]
 simp only [aA]
 rw [a3,b3]
 simp only [aA]
 rw [a4,b4]
 simp only [aA]
 rw [a5,b5]
 simp only [aA]
 rw [a6,b6]
 simp only [aA]
 rw [a7,b7]
 simp only [aA]
 rw [a8,b8]
 simp only [aA]
 rw [a9,b9]
 simp only [aA]
 rw [(sM l9).1,aDx,tW]
 simp only [aA]
 have hg:∀ c:Bool,gd ((decide (e9=(0:Int)))==true) (some c)=some (if e9=0 then c else false):=fun c=>by by_cases h:e9=0 <;> simp [gd,h] <;> rfl
 rw [hg]
 simp only [aA]
 obtain ⟨r10,w10,a10,b10,l10⟩:=aKz (inB n9 0 64) l9
 rw [a10,b10]
 simp only [aA]
 obtain ⟨X,Y,m1,m2,fl,e11,hX,hY,l11,k11,hs11⟩:∃ X Y,fI (jT (n9,r9)) ((0:Int),r10,([]:List (List UInt8)))=some X∧fI (pN (n9,w9)) ((0:Int),w10,([]:List (List UInt8)))=some Y ∧
   ∃ fl e',X.2=fl∧Y.2=fl∧lT e' X.1 Y.1∧zU 16 okS fl∧(eIf (inB n9 0 64) e9≠0→e'=eIf (inB n9 0 64) e9):=by
  let R:(Int × aM × List (List UInt8))→(Int × aV × List (List UInt8))→Prop:=fun s t=>∃ (i:Nat) (r:aM) (w:aV) (l:List (List UInt8)) (e:Int),s=((i:Int),r,l)∧t=((i:Int),w,l)∧lT e r w∧l.length=i∧i≤64∧(∀ x∈l,x.length≤1000000000)∧(e=0→0≤n9∧n9≤64)∧(eIf (inB n9 0 64) e9≠0→e=eIf (inB n9 0 64) e9)
  have hok:∀ l:List (List UInt8),l.length≤64→(∀ x∈l,x.length≤1000000000)→zU 16 okS l:=fun l h1 h2=>⟨by omega,by omega,fun x hx=>by have:=h2 x hx;simp only [okS];omega⟩
  refine aIN R (fun s=>65 - s.1.toNat) (fun (X:aM × List (List UInt8)) (Y:aV × List (List UInt8))=>∃ fl e',X.2=fl∧Y.2=fl∧lT e' X.1 Y.1∧zU 16 okS fl∧(eIf (inB n9 0 64) e9≠0→e'=eIf (inB n9 0 64) e9)) ?_ _ _ ⟨0,r10,w10,[],_,rfl,rfl,l10,rfl,by omega,by simp,fun h=>?_,fun _=>rfl⟩
  ·
   rintro s t ⟨i,r,w,l,e,rfl,rfl,hl,hlen,hi,hx,hn,hst⟩
   unfold jT
   by_cases hgo:(i:Int)<n9∧e=0
   ·
    obtain ⟨x,e',r',w',g1,g2,g3,g4,g5,g6⟩:=aF8 4096 hl
    have hn':=hn hgo.2
    have hi1:IntKind.i64.wrap ((i:Int)+1)=((i+1:Nat):Int):=by rw [w64 (by omega) (by omega)];omega
    refine .inl ⟨((i+1:Nat),r',l++[x]),((i+1:Nat),w',l++[x]),?_,?_,⟨i+1,r',w',l++[x],e',rfl,rfl,g3,by simp [hlen],by omega,?_,fun _=>hn',fun h=>absurd hgo.2 (by rw [hst h];exact h)⟩,by simp;omega⟩
    ·
     simp only
     rw [dF,aT hgo.1,(sM hl).1]
     simp only [aA,hgo.2,bC,bS,Fl.next]
     rw [g1,aA,oQ (by simp;omega),aA,hi1]
    ·
     unfold pN
     simp only
     rw [dF,aT hgo.1,(sM hl).2]
     simp only [aA,hgo.2,bC,bS,Fl.next]
     rw [g2,aA,oQ (by simp;omega),aA,hi1]
    ·
     intro y hy
     rcases fA.1 hy with hy | hy
     ·
      exact hx y hy
     ·
      rw [jZ.1 hy];exact g4
   ·
    refine .inr ⟨(r,l),(w,l),?_,xG ?_,l,e,rfl,rfl,hl,hok l (by omega) hx,hst⟩
    ·
     simp only
     by_cases h1:(i:Int)<n9
     ·
      have h2:¬e=0:=fun h=>hgo ⟨h1,h⟩
      rw [dF,aT h1,(sM hl).1]
      simp [h2,Fl.next]
     ·
      rw [dF,aQ h1];simp [Fl.next]
    ·
     unfold pN
     simp only
     by_cases h1:(i:Int)<n9
     ·
      have h2:¬e=0:=fun h=>hgo ⟨h1,h⟩
      rw [dF,aT h1,(sM hl).2]
      simp [h2,Fl.next]
     ·
      rw [dF,aQ h1];simp [Fl.next]
  ·
   have:=(aQ5.1 h).2
   unfold inB at this
   simpa using this
 rw [m1,m2]
 obtain ⟨rX,lX⟩:=X
 obtain ⟨wY,lY⟩:=Y
 simp only at hX hY l11
 subst hX hY
 have hokP:iR ⟨q,n1,n2,n3,n4,n5,n6,n7,n8,lY⟩:=⟨by simp only [okS];omega,k1,k2,k3,k4,k5,k6,k7,k8,k11⟩
 simp only [aA]
 rw [(sM l11).1,aAa hokP,aAz hokP]
 simp only [aA]
 have hg2:∀ c:Bool,gd ((decide (e11=(0:Int)))==true) (some c)=some (if e11=0 then c else false):=fun c=>by by_cases h:e11=0 <;> simp [gd,h] <;> rfl
 rw [hg2]
 simp only [aA]
 obtain ⟨r12,w12,a12,b12,l12⟩:=aKz (pS ⟨q,n1,n2,n3,n4,n5,n6,n7,n8,lY⟩) l11
 rw [a12,b12]
 simp only [aA]
 rw [(sM l12).1,(sM l12).2]
 have hst2:e≠0→eIf (pS ⟨q,n1,n2,n3,n4,n5,n6,n7,n8,lY⟩) e11=e:=fun he=>by
  have h9:=hstay he
  have h10:eIf (inB n9 0 64) e9=e9:=aQ6 (by omega)
  rw [h10] at hs11
  have h11:=hs11 (by omega)
  rw [aQ6 (by omega),h11,h9]
 by_cases he0:eIf (pS ⟨q,n1,n2,n3,n4,n5,n6,n7,n8,lY⟩) e11=0
 ·
  exact ⟨_,_,r12,w12,by simp [he0],by simp [he0],l12,hokP,hst2⟩
 ·
  exact ⟨zP,_,r12,w12,by simp [he0,zP],by simp [he0,zP],l12,aTS,hst2⟩
def aGQ {α:Type} (p:α→Bool):List α→Nat→Option (Nat × α)
 | [],_=>none
 | x :: l,k=>if p x then some (k,x) else aGQ p l (k+1)
def aLe {α τ:Type} (d:Nat→α→τ):Option (Nat × α)→Fl τ Unit
 | some (i,x)=>.done (d i x)
 | none=>.go ()
theorem aIM {α τ:Type}{l:List α}{p:α→Bool}{d:Nat→α→τ}{body:Int→Option (dN Int (Fl τ Unit))} (h:∀ (i:Nat) (hi:i<l.length),body (i:Int)=some (if p l[i] then .out (.done (d i l[i])) else .next ((i+1:Nat):Int)))
  (hout:body (l.length:Int)=some (.out (.go ()))):∀ (suf pre:List α),l=pre++suf→fI body (pre.length:Int)=some (aLe d (aGQ p suf pre.length)):=by
 intro suf
 induction suf with
 | nil =>
  intro pre e
  rw [mZ] at e
  rw [aCN,← e,hout];rfl
 | cons x suf ih =>
  intro pre e
  have hi:pre.length<l.length:=by rw [e];simp
  have hx:l[pre.length]=x:=by simp [e]
  rw [aCN,h _ hi,hx]
  cases hp:p x
  ·
   have:=ih (pre++[x]) (by simp [e])
   rw [aW,List.length_singleton] at this
   simp only [aGQ,hp,cR,cD,aA]
   exact this
  ·
   simp only [aGQ,hp,bQ,aA,aLe]
theorem aOf {α τ:Type}{l:List α} (p:α→Bool) (d:Nat→α→τ) {body:Int→Option (dN Int (Fl τ Unit))} (h:∀ (i:Nat) (hi:i<l.length),body (i:Int)=some (if p l[i] then .out (.done (d i l[i])) else .next ((i+1:Nat):Int)))
 (hout:body (l.length:Int)=some (.out (.go ()))):fI body (0:Int)=some (aLe d (aGQ p l 0)):=aIM h hout l [] rfl
theorem aIP {s:List UInt8} (h:s.length≤140737488355328):aBe s=some (xW s):=by unfold aBe;rw [aT h]
theorem aHb {n l h:Int}:mD n l h=some (inB n l h):=by unfold mD inB;rw [nN];by_cases h1:l≤n <;> simp [h1]
theorem aE9 {s:List UInt8} (hs:s.length≤9223372036854775807):oM s=some (wJ s):=(show oM s=wG s from rfl).trans (aMr hs)
theorem aN6 {v:aF} (hv:dS v):aBa v=some (aBU v):=by
 obtain ⟨k0,k1,k2,k3,k4⟩:=(fS v).1 hv
 unfold aBa
 simp only [aAQ]
 by_cases h2:v.Items.length=2
 ·
  obtain ⟨a,b,hab⟩:=aMx h2
  obtain ⟨_,_,_,hb,_⟩:=(fS b).1 (k3.2.2 b (by rw [hab];simp))
  have h0:lO v.Items (1:Int)=some b:=by rw [hab];rfl
  have hi2:aBU v=(decide (v.Kind=4)&&decide (b.Kind=4)&&b.Items.all pM):=by unfold aBU;rw [hab]
  have hC:fI (xF b) (0:Int)=some (if b.Items.all pM then .go () else .done false):=by
   rw [oC b.Items.length (fun i=>pM (b.Items.getD i default)) false (fun i hi=>?_) ?_,sD b.Items pM]
   ·
    unfold xF
    rw [dF,aQ (by omega)]
   ·
    unfold xF
    rw [dF,aT (by omega),iT hi,aA,pW hi hb.1]
    simp only [cG,aK hi,eK,aAQ,yO]
    generalize b.Items[i]=x
    by_cases h2:x.Items.length=2
    ·
     obtain ⟨c,d,hcd⟩:=aMx h2
     have hp:pM x=(decide (x.Kind=4)&&decide (c.Kind=3)&&pR c.Text):=by unfold pM;rw [hcd]
     have h0:lO x.Items (0:Int)=some c:=by rw [hcd];rfl
     rw [h0,hp,h2]
     by_cases h1:x.Kind=4 <;> by_cases h3:c.Kind=3
     ·
      simp only [h1,h3,bC,oJ,bE,aZ,fW,gd,bQ,aA,cL]
      cases pR c.Text <;> rfl
     ·
      simp [h1,h3,gd]
     ·
      simp [h1,h3,gd]
     ·
      simp [h1,h3,gd]
    ·
     have:pM x=false:=aEO h2
     simp [this,h2,gd]
  rw [h0,h2,hi2]
  by_cases h1:v.Kind=4 <;> by_cases h3:b.Kind=4
  ·
   simp only [h1,h3,bC,oJ,bE,aZ,fW,gd,bQ,aA,cL,hC]
   cases b.Items.all pM <;> rfl
  ·
   simp [h1,h3,gd]
  ·
   simp [h1,h3,gd]
  ·
   simp [h1,h3,gd]
 ·
  have:aBU v=false:=aF7 h2
  simp [this,h2,gd]
def gH (k:Int):Int:=if k=7 then 1 else if k=12 then 2 else if k=14 then 3 else if k=16 then 4 else if k=19 then 5 else if k=23 then 6 else if k=18 then 7 else if k=27 then 8 else if k=28 then 9 else if k=29 then 10 else if k=30 then 11 else if k=31 then 12 else if k=32 then 13 else if k=35 then 14 else 0
theorem aRj {α:Type}{p:Prop} [Decidable p] {a b:α}:(if p then some a else some b)=some (if p then a else b):=by split <;> rfl
theorem aK9 (k:Int):vX k=some (gH k):=by
 unfold vX gH
 simp only [dF,aRj]
theorem or3 {a b c:Bool}:(cond a (some a) (cond b (some b) (some c)))=some (a||b||c):=by cases a <;> cases b <;> rfl
theorem or2 {a b:Bool}:(cond a (some a) (some b))=some (a||b):=by cases a <;> rfl
theorem aEL {α:Type}{c:Bool}{a b:α}:cond c (some a) (some b)=some (cond c a b):=by cases c <;> rfl
def gZ (k:Int):kQ :=
 cond (decide (k=1)) ⟨false,false,true,false,true,true,true⟩ (cond (decide (k=2)) ⟨false,false,true,false,false,false,false⟩ (cond (decide (k=3)||decide (k=4)||decide (k=6)) ⟨false,true,false,false,false,false,false⟩
 (cond (decide (k=5)) ⟨false,true,false,true,false,false,false⟩ (cond (decide (k=8)) ⟨true,true,true,false,false,false,false⟩ (cond (decide (k=9)||decide (k=13)||decide (k=21)) ⟨true,true,false,false,false,false,true⟩
 (cond (decide (k=10)||decide (k=22)) ⟨true,true,false,false,true,false,true⟩ (cond (decide (k=11)) ⟨true,true,false,true,false,false,false⟩ (cond (decide (k=15)||decide (k=24)) ⟨true,true,false,false,false,false,false⟩
 (cond (decide (k=17)) ⟨false,false,false,false,true,true,true⟩ (cond (decide (k=20)) ⟨true,true,false,false,false,true,false⟩ (cond (decide (k=25)) ⟨true,true,false,false,true,false,false⟩
 (cond (decide (k=26)) ⟨false,false,false,false,false,true,false⟩ (cond (decide (k=33)) ⟨false,false,false,false,true,false,false⟩ ⟨false,false,false,false,false,false,false⟩)))))))))))))
theorem aTC (k:Int):aBR k=some (gZ k):=by
 unfold aBR gZ
 simp only [or3,or2,aA]
 simp only [aEL,Bool.or_assoc]
def kE (u:kQ) (e:bW):Bool :=
 (u.seq_||decide (e.Seq=0))&&(u.ref_||decide (e.Ref=0))&&(u.n_||decide (e.N=0))&&(u.code_||decide (e.Code=0))&&(u.name_||decide (e.Name=[]))&&(u.key_||decide (e.Key=[]))&&(u.data_||hD e.Data iH)&&aCr e.Opts aBA
theorem aQ8 {u:kQ}{e:bW} (h:gN e):uS u e=some (kE u e):=by
 have hd:dS e.Data:=h.2.2.2.2.2.2.2.2.2.1
 have ho:iR e.Opts:=h.2.2.2.2.2.2.2.2.2.2
 unfold uS kE
 rw [show (aF.mk 0 0 [] [] [])=iH from rfl,show (bV.mk [] 0 0 0 0 0 0 0 0 [])=aBA from rfl,aFf hd,aE0 ho]
 simp only [Bool.cond_true_left,Bool.cond_false_right]
 generalize ((u.seq_||decide (e.Seq=0))&&(u.ref_||decide (e.Ref=0))&&(u.n_||decide (e.N=0))&&(u.code_||decide (e.Code=0))&&(u.name_||decide (e.Name=[]))&&(u.key_||decide (e.Key=[])))=b
 cases b
 ·
  simp [gd]
 ·
  cases u.data_
  ·
   cases hD e.Data iH <;> simp [gd]
  ·
   simp [gd]
noncomputable def yI (e:bW) (k:Int):Bool:=decide (e.Code=0)&&(if k=2∨k=4 then inB e.Ref 1 2000 else decide (e.Ref=0))&&jP ⟨k,e.Seq,e.Name,e.Key,e.N,e.Data,e.Opts⟩
theorem aTO {e:bW} (h:gN e) {k:Int} (hk:tN k):aAl ⟨k,e.Seq,e.Name,e.Key,e.N,e.Data,e.Opts⟩:=by
 obtain ⟨h1,h2,h3,h4,h5,h6,h7,h8,h9,h10,h11⟩:=h
 exact ⟨hk,h4,h8,h9,h6,h10,h11⟩
theorem aLa {e:bW} (h:gN e) {k:Int} (hk:tN k):vY e k=some (yI e k):=by
 unfold vY yI
 rw [aGN (aTO h hk),aHb]
 generalize jP _=c
 generalize inB e.Ref 1 2000=r
 by_cases hc:e.Code=0 <;> by_cases h2:k=2 <;> by_cases h4:k=4 <;> by_cases hr:e.Ref=0 <;> simp [hc,h2,h4,hr,gd] <;> cases r <;> simp
def nH (e:bW):Bool :=
 cond (decide (e.Kind=1)) (pR e.Name&&wJ e.Key&&inB e.N 0 4294967295&&aBU e.Data) (cond (decide (e.Kind=2)) (decide (1≤e.N)) (cond (decide (e.Kind=5)) (inB e.Code 1 30) (cond (decide (e.Kind=8)) (inB e.N 1 1000) (cond (decide (e.Kind=11)) (inB e.Code 1 4)
 (cond (decide (e.Kind=10)||decide (e.Kind=22)||decide (e.Kind=25)) (decide ((e.Name.length:Int)≤4096)) (cond (decide (e.Kind=33)) (decide ((e.Name.length:Int)≤64)) (cond (decide (e.Kind=17)) (pR e.Name&&wJ e.Key) (cond (decide (e.Kind=26)) (wJ e.Key) (cond (decide (e.Kind=20)) (xW e.Key).2 true)))))))))
theorem aUm {a b:Bool}:((gd (a==true) (some b)).bind fun (x:Bool)=>some (cond a x false))=some (a&&b):=by cases a <;> rfl
theorem aJR {e:bW} (h:gN e):uR e=some (nH e):=by
 have hd:dS e.Data:=h.2.2.2.2.2.2.2.2.2.1
 have hk:okS e.Key:=h.2.2.2.2.2.2.2.2.1
 unfold okS at hk
 unfold uR nH
 simp only [yO,aE9 (show e.Key.length≤9223372036854775807 by omega),aHb,aN6 hd,aIP (show e.Key.length≤140737488355328 by omega),or3,aA]
 generalize pR e.Name=a
 generalize wJ e.Key=b
 generalize inB e.N 0 4294967295=c
 generalize aBU e.Data=d
 have:((gd (a==true) (some b)).bind fun x4=>(gd ((cond a x4 false)==true) (some c)).bind fun x6=>(gd ((cond (cond a x4 false) x6 false)==true) (some d)).bind fun x8=>some (cond (cond (cond a x4 false) x6 false) x8 false))=some (a&&b&&c&&d):=by
  cases a <;> cases b <;> cases c <;> rfl
 rw [this]
 simp only [aUm]
 simp only [aEL,Bool.or_assoc]
noncomputable def rM (e:bW):Bool :=
 inB e.Kind 1 35&&inB e.ID 0 2000&&inB e.Time 0 1099511627776&&dX e.Data&&(if gH e.Kind=0 then kE (gZ e.Kind) e&&(!(gZ e.Kind).seq_||inB e.Seq 1 2000)&&(!(gZ e.Kind).ref_||inB e.Ref 1 2000)&&nH e else yI e (gH e.Kind))
theorem aKD (k:Int):tN (gH k):=by
 unfold gH tN
 repeat' split
 all_goals omega
theorem xE {e:bW} (h:gN e):xD e=some (rM e):=by
 have hd:dS e.Data:=h.2.2.2.2.2.2.2.2.2.1
 unfold xD rM
 simp only [aHb,aEy hd,aK9,aTC,aQ8 h,aLa h (aKD _),aJR h,aA]
 cases inB e.Kind 1 35
 ·
  simp [gd]
 cases inB e.ID 0 2000
 ·
  simp [gd]
 cases inB e.Time 0 1099511627776
 ·
  simp [gd]
 cases dX e.Data
 ·
  simp [gd]
 simp only [bE,aZ,fW,gd,bQ,aA,cL,uI]
 split
 ·
  rename_i h0
  generalize gZ e.Kind=u
  cases kE u e
  ·
   simp
  ·
   cases u.seq_ <;> cases u.ref_ <;> cases inB e.Seq 1 2000 <;> cases inB e.Ref 1 2000 <;> simp
 ·
  simp
def wf {α:Type} (f:Int→α→Int):List α→Int→Int
 | [],a=>a
 | x :: l,a=>if 0≤a then wf f l (f a x) else a
set_option maxRecDepth 20000
theorem aMi (k:Int):0≤gH k∧gH k≤14:=by
 unfold gH
 repeat' split
 all_goals omega
def aNX:List Int:=[7,12,14,16,19,23,18,27,28,29,30,31,32,35]
theorem aFc (k:Int):wH k=some (gH k):=by
 unfold wH
 rw [show aAy=some aNX from rfl,aA]
 rw [aOf (l:=aNX) (fun x=>decide (x=k)) (fun i _=>(i:Int)+1) (fun i hi=>?_) ?_,aA]
 ·
  unfold gH
  by_cases h7:k=7
  ·
   subst h7;rfl
  by_cases h12:k=12
  ·
   subst h12;rfl
  by_cases h14:k=14
  ·
   subst h14;rfl
  by_cases h16:k=16
  ·
   subst h16;rfl
  by_cases h19:k=19
  ·
   subst h19;rfl
  by_cases h23:k=23
  ·
   subst h23;rfl
  by_cases h18:k=18
  ·
   subst h18;rfl
  by_cases h27:k=27
  ·
   subst h27;rfl
  by_cases h28:k=28
  ·
   subst h28;rfl
  by_cases h29:k=29
  ·
   subst h29;rfl
  by_cases h30:k=30
  ·
   subst h30;rfl
  by_cases h31:k=31
  ·
   subst h31;rfl
  by_cases h32:k=32
  ·
   subst h32;rfl
  by_cases h35:k=35
  ·
   subst h35;rfl
  simp [aNX,aGQ,aLe,Fl.next,h7,h12,h14,h16,h19,h23,h18,h27,h28,h29,h30,h31,h32,h35,lD h7,lD h12,lD h14,lD h16,lD h19,lD h23,lD h18,lD h27,lD h28,lD h29,lD h30,lD h31,lD h32,lD h35]
 ·
  unfold xZ
  rw [dF,aQ (by omega)]
 ·
  have h:i<14:=hi
  unfold xZ
  rw [dF,aT (by omega),iT hi,aA,pW hi (by show (14:Nat)≤_;omega)]
  simp only [cB,dF]
  split <;> rfl
theorem aHG (k:Int):wC k=some (!decide (gH k=0)):=by
 unfold wC
 rw [aFc,aA]
 have:=(aMi k).1
 by_cases h:gH k=0
 ·
  rw [h];rfl
 ·
  have h2:0<gH k:=by omega
  simp [h,h2]
def aO2 (a b:bW):Bool:=decide (a.ID=b.ID)&&decide (a.Kind=b.Kind)&&decide (a.Time=b.Time)&&decide (a.Seq=b.Seq)&&decide (a.Ref=b.Ref)&&decide (a.N=b.N)&&decide (a.Code=b.Code)&&decide (a.Name=b.Name)&&decide (a.Key=b.Key)&&hD a.Data b.Data&&aCr a.Opts b.Opts
theorem aQs {a b c:Bool}:((gd (a==true) (some b)).bind fun (x1:Bool)=>(gd ((cond a x1 false)==true) (some c)).bind fun (x3:Bool)=>some (cond (cond a x1 false) x3 false))=some (a&&b&&c):=by cases a <;> cases b <;> rfl
theorem aDy {a b:bW} (h:gN a):xO a b=some (aO2 a b):=by
 have hd:dS a.Data:=h.2.2.2.2.2.2.2.2.2.1
 have ho:iR a.Opts:=h.2.2.2.2.2.2.2.2.2.2
 unfold xO aO2
 rw [aJb hd,aAT ho,aQs]
 simp only [Bool.cond_false_right]
theorem aFq (a:bW):aO2 a a=true:=by unfold aO2;simp [aJr,aIY]
theorem aGO {u:Nat} (h:u<10):Lib.decDigits u=[UInt8.ofNat (48+u)]:=by rw [Lib.decDigits];simp [h]
theorem aLc {u:Nat} (h:¬u<10):Lib.decDigits u=Lib.decDigits (u / 10)++[UInt8.ofNat (48+u % 10)]:=by rw [Lib.decDigits];simp [h]
theorem aHV:∀ (k u:Nat),u<10 ^ (k+1)→(Lib.decDigits u).length≤k+1
 | 0,u,h=>by rw [aGO (by omega)];simp
 | k+1,u,h=>by
  by_cases hu:u<10
  ·
   rw [aGO hu];simp
  ·
   rw [aLc hu]
   have:=aHV k (u / 10) (by rw [pE] at h;omega)
   simp;omega
theorem aN0:∀ (n u:Nat),u<10 ^ (n+1)→u≤9223372036854775808→n≤30→lS (n+1) (-(u:Int))=some (Lib.decDigits u):=by
 intro n
 induction n with
 | zero =>
  intro u h hb _
  have hu:u<10:=by omega
  rw [lS]
  have e1:IntKind.u8.wrap (IntKind.i64.wrap (48+IntKind.i64.wrap (0 - (-(u:Int)).tmod 10)))=((48+u:Nat):Int):=by
   have:(-(u:Int)).tmod 10=-(u:Int):=by rw [Int.neg_tmod,lV (by omega)];omega
   rw [this,IntKind.wrap_u8,IntKind.wrap_i64,IntKind.wrap_i64];omega
  rw [e1,aF1 (by omega),aA,dF,aT (by omega),aGO hu]
 | succ n ih =>
  intro u h hb hn
  rw [lS]
  have e1:IntKind.u8.wrap (IntKind.i64.wrap (48+IntKind.i64.wrap (0 - (-(u:Int)).tmod 10)))=((48+u % 10:Nat):Int):=by
   have:(-(u:Int)).tmod 10=-((u % 10:Nat):Int):=by rw [Int.neg_tmod,lV (by omega)];omega
   rw [this,IntKind.wrap_u8,IntKind.wrap_i64,IntKind.wrap_i64];omega
  rw [e1,aF1 (by omega),aA,dF]
  by_cases hu:u<10
  ·
   rw [aT (by omega),aGO hu,Nat.mod_eq_of_lt hu]
  ·
   rw [aQ (by omega)]
   have e2:IntKind.i64.wrap ((-(u:Int)).tdiv 10)=-((u / 10:Nat):Int):=by
    have:(-(u:Int)).tdiv 10=-((u / 10:Nat):Int):=by rw [Int.neg_tdiv,qK (by omega)];omega
    rw [this,w64 (by omega) (by omega)]
   have hl:=aHV n (u / 10) (by rw [pE] at h;omega)
   rw [e2,ih (u / 10) (by rw [pE] at h;omega) (by omega) (by omega),aA,aQY (by simp;omega),aA,aLc hu]
theorem aPY {u:Nat} (h:u≤9223372036854775808):xY (-(u:Int))=some (Lib.decDigits u):=aG3 (aN0 19 u (by omega) h (by omega))
theorem aHr {n:Int} (h:tN n):aCV n=some (aD2 n):=by
 unfold aCV aD2
 rw [dF]
 by_cases h1:n<1
 ·
  rw [aT h1,aT h1]
 ·
  rw [aQ h1,aQ h1]
  obtain ⟨h2,h3⟩:=h
  unfold aA3
  obtain ⟨u,rfl⟩:∃ u:Nat,n=(u:Int):=⟨n.toNat,by omega⟩
  rw [dF,aQ (by omega),show (0:Int) - (u:Int)=-(u:Int) by omega,w64 (by omega) (by omega),aPY (by omega),aA,aA]
  have hl:=aHV 18 u (by omega)
  rw [aQY (by simp;omega),aA,Lib.itoa_nonneg];rfl
def rdS (a:Nat) (c:UInt8):Nat:=10*a+(c.toNat - 48)
def rd (a:Nat) (l:List UInt8):Nat:=l.foldl rdS a
theorem aGg (c:UInt8) (l:List UInt8) (a:Nat):rd a (c :: l)=rd (rdS a c) l:=oH ..
theorem aG1 (a:Nat):rd a []=a:=List.foldl_nil ..
theorem aG0 (l m:List UInt8) (a:Nat):rd a (l++m)=rd (rd a l) m:=List.foldl_append ..
theorem aUD (a:Nat) (c:UInt8):a≤rdS a c:=by unfold rdS;omega
theorem aRK:∀ (l:List UInt8) (a:Nat),a≤rd a l
 | [],a=>by rw [aG1];exact fB a
 | c :: l,a=>by rw [aGg];exact mH (aUD a c) (aRK l (rdS a c))
def dig (c:UInt8):Prop:=48≤c.toNat∧c.toNat≤57
theorem aQ3 {u:Nat} (h:u<10):dig (UInt8.ofNat (48+u))∧(UInt8.ofNat (48+u)).toNat - 48=u:=by
 have:(UInt8.ofNat (48+u)).toNat=48+u:=by simp;omega
 unfold dig;omega
theorem aOp:∀ u,rd 0 (Lib.decDigits u)=u∧∀ c∈Lib.decDigits u,dig c:=by
 intro u
 induction u using Nat.strongRecOn with
 | _ u ih =>
  by_cases h:u<10
  ·
   obtain ⟨h1,h2⟩:=aQ3 h
   rw [aGO h,aGg,aG1]
   refine ⟨?_,by simp only [jZ];rintro c rfl;exact h1⟩
   unfold rdS
   omega
  ·
   obtain ⟨h1,h2⟩:=aQ3 (u:=u % 10) (by omega)
   obtain ⟨i1,i2⟩:=ih (u / 10) (by omega)
   rw [aLc h,aG0,i1,aGg,aG1]
   refine ⟨?_,?_⟩
   ·
    unfold rdS
    omega
   ·
    intro c hc
    rcases fA.1 hc with hc | hc
    ·
     exact i2 c hc
    ·
     rw [jZ.1 hc];exact h1
theorem aUg (u:Nat):Lib.decDigits u≠[]:=by
 by_cases h:u<10
 ·
  rw [aGO h];simp
 ·
  rw [aLc h];simp
theorem aRB:∀ (l:List UInt8) (a:Nat),(∀ c∈l,dig c)→rd a l<18446744073709551616→Lib.parseUint10 a l=.ok (rd a l):=by
 intro l
 induction l with
 | nil=>intro a _ _;rw [aG1,Lib.parseUint10]
 | cons c l ih =>
  intro a hd hr
  have hc:=hd c (by simp)
  have hge:=aRK l (rdS a c)
  rw [aGg] at hr ⊢
  unfold dig at hc
  have hs:rdS a c=10*a+(c.toNat - 48):=rfl
  rw [Lib.parseUint10,aT hc,aQ (by omega),pD a 10,aQ (by omega),← hs]
  exact ih _ (fun x hx=>hd x (by simp [hx])) hr
theorem aQT {u:Nat} (h:u≤9223372036854775807):Lib.atoiAll (Lib.decDigits u)=.ok (u:Int):=by
 obtain ⟨h1,h2⟩:=aOp u
 have hp:=aRB (Lib.decDigits u) 0 h2 (by omega)
 rw [h1] at hp
 have hne:=aUg u
 generalize Lib.decDigits u=l at *
 cases l with
 | nil=>exact absurd rfl hne
 | cons c r =>
  have hc:=h2 c (by simp)
  unfold dig at hc
  unfold Lib.atoiAll
  simp only
  rw [aQ (by omega)]
  unfold Lib.parseMag
  rw [aQ (by simp),hp]
  simp only
  rw [aQ (by omega),aQ (by omega),aQ (by omega)]
theorem aM5 {v:Int} (h:1≤v):aD2 v=114 :: Lib.decDigits v.toNat:=by
 unfold aD2
 rw [aQ (by omega)]
 obtain ⟨u,rfl⟩:∃ u:Nat,v=(u:Int):=⟨v.toNat,by omega⟩
 rw [Lib.itoa_nonneg];rfl
theorem aML {v:Int} (h1:1≤v) (h2:v≤9223372036854775807):xW (aD2 v)=(v,true):=by
 unfold xW
 have hr:=aM5 h1
 have hp:Lib.hasPrefix (aD2 v) [114]=true:=by rw [hr];simp [Lib.hasPrefix]
 have ht:Lib.trimPrefix (aD2 v) [114]=Lib.decDigits v.toNat:=by unfold Lib.trimPrefix;rw [aT hp,hr];rfl
 rw [aT hp,ht,aQT (by omega)]
 simp only
 rw [show ((v.toNat:Nat):Int)=v by omega,aT ⟨rfl,h1⟩]
theorem aMK (s:List UInt8):(∃ v:Int,1≤v∧v≤9223372036854775807∧aD2 v=s∧xW s=(v,true))∨((∀ v:Int,1≤v→v≤9223372036854775807→aD2 v≠s)∧xW s=(0,false)):=by
 by_cases h:∃ v:Int,1≤v∧v≤9223372036854775807∧aD2 v=s
 ·
  obtain ⟨v,h1,h2,rfl⟩:=h
  exact .inl ⟨v,h1,h2,rfl,aML h1 h2⟩
 ·
  refine .inr ⟨fun v h1 h2 h3=>h ⟨v,h1,h2,h3⟩,?_⟩
  unfold xW
  split
  ·
   split
   ·
    rename_i v hv
    have hb:=aL2 hv
    rw [aQ fun hh=>h ⟨v,hh.2,hb.2,hh.1⟩]
   ·
    rfl
  ·
   rfl
theorem aU4 {x:Int} (h1:-9223372036854775808≤x) (h2:x≤9223372036854775807):(x+9223372036854775808) % 18446744073709551616 - 9223372036854775808=x:=by omega
theorem aU5 {x:Int} (h1:-9223372036854775808≤x - 48) (h2:x - 48≤9223372036854775807):((x+9223372036854775808) % 18446744073709551616 - 9223372036854775808 - 48+9223372036854775808) % 18446744073709551616 - 9223372036854775808=x - 48:=by omega
theorem aRL (c:UInt8) (l:List UInt8):rd 0 (((c :: l).take 1).drop 1)=0:=by
 rw [kV,List.take_zero,List.drop_succ_cons,oS,aG1]
theorem aQ4 (c:UInt8) (l:List UInt8):(c :: l).drop 1=l:=by rw [List.drop_succ_cons,oS]
theorem aJa {s:List UInt8} (h:s.length≤140737488355328):∃ x,fI (zA s) ((0:Int),(1:Int))=some x∧tN x∧∀ u:Nat,1≤u→u≤9223372036854775807→s=114 :: Lib.decDigits u→x=(u:Int):=by
 refine aAj (fun t=>∃ i:Nat,t.2=(i:Int)∧1≤i∧tN t.1∧∀ u:Nat,1≤u→u≤9223372036854775807→s=114 :: Lib.decDigits u→i≤s.length∧t.1=(rd 0 ((s.take i).drop 1):Int)) (fun t=>s.length - t.2.toNat) _ ?_ _ ⟨1,rfl,by omega,by simp [tN],fun u _ _ hs=>⟨by rw [hs,dY];omega,by rw [hs,aRL];rfl⟩⟩
 rintro ⟨x,i0⟩ ⟨i,hi0,h1,hx,hu⟩
 simp only at hi0 hx hu
 subst hi0
 unfold zA
 by_cases hc:i<s.length∧s.length≤20
 ·
  have e:(cond (decide ((i:Int)<(s.length:Int))) (decide ((s.length:Int)≤20)) false)=true:=by
   have a1:(i:Int)<s.length:=by omega
   have a2:(s.length:Int)≤20:=by omega
   simp [a1,a2]
  simp only
  rw [e,bS,iT hc.1,aA,pW hc.1 (by omega)]
  refine .inl ⟨_,rfl,⟨i+1,rfl,by omega,?_,fun u hu1 hu2 hs=>⟨hc.1,?_⟩⟩,by simp;omega⟩
  ·
   simp only [tN,IntKind.wrap_i64];omega
  ·
   obtain ⟨hi,hxe⟩:=hu u hu1 hu2 hs
   simp only
   have hr:=aOp u
   have hsplit:(s.take (i+1)).drop 1=(s.take i).drop 1++[s[i]]:=by
    rw [eN hc.1,kT (by simp;omega)]
   have hd:dig s[i]:=by
    refine hr.2 _ ?_
    have:s.drop 1=Lib.decDigits u:=by rw [hs,aQ4]
    rw [← this]
    have:s[i]=(s.drop 1)[i - 1]'(by simp;omega):=by simp only [List.getElem_drop];congr 1;omega
    rw [this];exact bZ _
   have hle:rd 0 ((s.take (i+1)).drop 1)≤u:=by
    have h2:s.drop 1=(s.take (i+1)).drop 1++s.drop (i+1):=by
     conv=>lhs;rw [← jM (i+1) s,kT (by simp;omega)]
    have h3:rd 0 (s.drop 1)=u:=by rw [hs,aQ4];exact hr.1
    rw [h2,aG0] at h3
    have:=aRK (s.drop (i+1)) (rd 0 ((s.take (i+1)).drop 1))
    omega
   rw [hsplit,aG0] at hle ⊢
   rw [aGg,aG1] at hle ⊢
   unfold dig at hd
   have hs:rdS (rd 0 ((s.take i).drop 1)) s[i]=10*rd 0 ((s.take i).drop 1)+(s[i].toNat - 48):=rfl
   rw [hs] at hle ⊢
   rw [hxe]
   generalize rd 0 ((s.take i).drop 1)=R at *
   generalize s[i]=c at *
   clear hs hsplit
   simp only [IntKind.wrap_i64]
   generalize c.toNat=d at *
   rw [aU4 (x:=10*(R:Int)) (by omega) (by omega),aU4 (x:=(d:Int)) (by omega) (by omega),aU5 (x:=10*(R:Int)+(d:Int)) (by omega) (by omega)]
   omega
 ·
  have e:(cond (decide ((i:Int)<(s.length:Int))) (decide ((s.length:Int)≤20)) false)=false:=by
   by_cases a1:(i:Int)<s.length
   ·
    have a2:¬(s.length:Int)≤20:=by omega
    simp [a1,a2]
   ·
    simp [a1]
  simp only
  rw [e,aZ]
  refine .inr ⟨x,rfl,hx,fun u hu1 hu2 hs=>?_⟩
  obtain ⟨hi,hxe⟩:=hu u hu1 hu2 hs
  have hl:=aHV 18 u (by omega)
  have hsl:s.length=(Lib.decDigits u).length+1:=by rw [hs,dY]
  have:i=s.length:=by omega
  rw [hxe,this,kO]
  have h3:s.drop 1=Lib.decDigits u:=by rw [hs,aQ4]
  rw [h3,(aOp u).1]
theorem aLs {s:List UInt8} (h:s.length≤140737488355328):aAu s=some (xW s):=by
 obtain ⟨x,hx,hok,hu⟩:=aJa h
 unfold aAu
 rw [hx,aA]
 rcases aMK s with ⟨v,h1,h2,h3,h4⟩ | ⟨h3,h4⟩
 ·
  have hxv:x=v:=by
   have:=hu v.toNat (by omega) (by omega) (by rw [← h3,aM5 h1])
   omega
  subst hxv
  rw [aHr hok,h4,h3]
  have:¬x<1:=by omega
  simp [this,gd]
 ·
  rw [aHr hok,h4]
  by_cases h5:x<1
  ·
   simp [h5,gd]
  ·
   have:=h3 x (by omega) hok.2
   simp [h5,gd,this]
theorem aJc {n l h:Int}:uW n l h=some (inB n l h):=by unfold uW inB;rw [nN];by_cases h1:l≤n <;> simp [h1]
theorem aJW {s:List UInt8} (hs:s.length≤9223372036854775807):xM s=some (wJ s):=(show xM s=oM s from rfl).trans (aE9 hs)
theorem aJX {v:aF} (hv:dS v):aBl v=some (dX v&&aBU v):=by
 obtain ⟨k0,k1,k2,k3,k4⟩:=(fS v).1 hv
 unfold aBl
 rw [aCy hv,aA]
 cases dX v
 ·
  simp [gd]
 simp only [bE,aZ,cL]
 rw [aAQ]
 by_cases h2:v.Items.length=2
 ·
  obtain ⟨a,b,hab⟩:=aMx h2
  obtain ⟨_,_,_,hb,_⟩:=(fS b).1 (k3.2.2 b (by rw [hab];simp))
  have h0:lO v.Items (1:Int)=some b:=by rw [hab];rfl
  have hi2:aBU v=(decide (v.Kind=4)&&decide (b.Kind=4)&&b.Items.all pM):=by unfold aBU;rw [hab]
  have hC:fI (xN b) (0:Int)=some (if b.Items.all pM then .go () else .done false):=by
   rw [oC b.Items.length (fun i=>pM (b.Items.getD i default)) false (fun i hi=>?_) ?_,sD b.Items pM]
   ·
    unfold xN
    rw [dF,aQ (by omega)]
   ·
    unfold xN
    rw [dF,aT (by omega),iT hi,pW hi hb.1]
    simp only [cG,aK hi,eK,yS,aA]
    generalize b.Items[i]=x
    by_cases h1:x.Kind=4
    ·
     by_cases h2:x.Items.length=2
     ·
      obtain ⟨c,d,hcd⟩:=aMx h2
      have hp:pM x=(decide (x.Kind=4)&&decide (c.Kind=3)&&pR c.Text):=by unfold pM;rw [hcd]
      have h0:lO x.Items (0:Int)=some c:=by rw [hcd];rfl
      rw [hp,h1]
      by_cases h3:c.Kind=3
      ·
       simp [h2,h0,h3,gd]
       cases pR c.Text <;> rfl
      ·
       simp [h2,h0,h3,gd]
     ·
      have:pM x=false:=aEO h2
      have h2':¬((x.Items.length:Int)=2):=by omega
      simp [this,h1,h2',gd]
    ·
     have hp:pM x=false:=by unfold pM;split <;> simp [h1]
     simp [hp,h1,gd]
  rw [h0,h2,hi2]
  by_cases h1:v.Kind=4 <;> by_cases h3:b.Kind=4
  ·
   simp only [h1,h3,bC,oJ,bE,aZ,fW,gd,bQ,aA,cL,hC]
   cases b.Items.all pM <;> rfl
  ·
   simp [h1,h3,gd]
  ·
   simp [h1,h3,gd]
  ·
   simp [h1,h3,gd]
 ·
  have:aBU v=false:=aF7 h2
  simp [this,h2,gd]
def jA (k:Int):gQ :=
 cond (decide (k=1)) ⟨false,false,true,false,true,true,true,false⟩ (cond (decide (k=2)) ⟨false,false,true,false,false,false,false,false⟩ (cond (decide (k=3)||decide (k=4)||decide (k=6)) ⟨false,true,false,false,false,false,false,false⟩
 (cond (decide (k=5)) ⟨false,true,false,true,false,false,false,false⟩ (cond (decide (k=8)) ⟨true,true,true,false,false,false,false,false⟩ (cond (decide (k=9)||decide (k=13)||decide (k=21)) ⟨true,true,false,false,false,false,true,false⟩
 (cond (decide (k=10)||decide (k=22)) ⟨true,true,false,false,true,false,true,false⟩ (cond (decide (k=11)) ⟨true,true,false,true,false,false,false,false⟩ (cond (decide (k=15)||decide (k=24)||decide (k=12)||decide (k=16)) ⟨true,true,false,false,false,false,false,false⟩
 (cond (decide (k=17)) ⟨false,false,false,false,true,true,true,false⟩ (cond (decide (k=20)) ⟨true,true,false,false,false,true,false,false⟩ (cond (decide (k=25)) ⟨true,true,false,false,true,false,false,false⟩
 (cond (decide (k=26)) ⟨false,false,false,false,false,true,false,false⟩ (cond (decide (k=33)) ⟨false,false,false,false,true,false,false,false⟩ (cond (decide (k=7)) ⟨true,false,false,false,true,false,true,true⟩ (cond (decide (k=14)) ⟨true,false,true,false,false,false,false,false⟩
 (cond (decide (k=19)) ⟨true,false,true,false,true,true,true,false⟩ (cond (decide (k=23)) ⟨true,false,false,false,true,true,true,false⟩ (cond (decide (k=18)) ⟨false,false,true,false,true,false,true,false⟩ (cond (decide (k=27)) ⟨false,false,false,false,true,true,true,false⟩
 (cond (decide (k=28)) ⟨false,false,true,false,false,true,true,false⟩ (cond (decide (k=31)) ⟨false,false,false,false,true,false,true,false⟩ (cond (decide (k=29)||decide (k=30)||decide (k=32)||decide (k=35)) ⟨false,false,false,false,false,false,true,false⟩ ⟨false,false,false,false,false,false,false,false⟩))))))))))))))))))))))
theorem aQB (k:Int):aB5 k=some (jA k):=by
 unfold aB5 jA
 simp only [or3,or2,aA]
 simp only [aEL,Bool.or_assoc]
noncomputable def iY (u:gQ) (e:bW):Bool :=
 (if u.seq_ then inB e.Seq 1 2000 else decide (e.Seq=0))&&(if u.ref_ then inB e.Ref 1 2000 else decide (e.Ref=0))&&(u.n_||decide (e.N=0))&&(u.code_||decide (e.Code=0))&&(u.name_||decide (e.Name=[]))&&(u.key_||decide (e.Key=[]))&&dX e.Data&&(u.data_||decide (e.Data.Kind=0))&&(u.opts_||aCr e.Opts aBA)
set_option maxHeartbeats 2000000 in
theorem aPQ {e:bW} (h:gN e):aB4 e=some (iY (jA e.Kind) e):=by
 have hd:dS e.Data:=h.2.2.2.2.2.2.2.2.2.1
 have ho:iR e.Opts:=h.2.2.2.2.2.2.2.2.2.2
 unfold aB4 iY
 rw [aQB,aA,show (bV.mk [] 0 0 0 0 0 0 0 0 [])=aBA from rfl,aAT ho,aCy hd]
 simp only [aJc]
 generalize jA e.Kind=u
 obtain ⟨u1,u2,u3,u4,u5,u6,u7,u8⟩:=u
 simp only
 generalize inB e.Seq 1 2000=a1
 generalize inB e.Ref 1 2000=a2
 generalize decide (e.Seq=0)=b1
 generalize decide (e.Ref=0)=b2
 generalize decide (e.N=0)=b3
 generalize decide (e.Code=0)=b4
 generalize decide (e.Name=[])=b5
 generalize decide (e.Key=[])=b6
 generalize dX e.Data=b7
 generalize decide (e.Data.Kind=0)=b8
 generalize aCr e.Opts aBA=b9
 have h1:∃ r,(if u1=true then a1 else b1)=r:=⟨_,rfl⟩
 cases u1
 ·
  cases u2
  ·
   cases b1 <;> cases b2 <;> simp [gd] <;> cases u3 <;> cases b3 <;> cases u4 <;> cases b4 <;> simp <;> cases u5 <;> cases b5 <;> cases u6 <;> cases b6 <;> simp <;> cases b7 <;> cases u7 <;> cases b8 <;> cases u8 <;> simp
  ·
   cases b1 <;> cases a2 <;> simp [gd] <;> cases u3 <;> cases b3 <;> cases u4 <;> cases b4 <;> simp <;> cases u5 <;> cases b5 <;> cases u6 <;> cases b6 <;> simp <;> cases b7 <;> cases u7 <;> cases b8 <;> cases u8 <;> simp
 ·
  cases u2
  ·
   cases a1 <;> cases b2 <;> simp [gd] <;> cases u3 <;> cases b3 <;> cases u4 <;> cases b4 <;> simp <;> cases u5 <;> cases b5 <;> cases u6 <;> cases b6 <;> simp <;> cases b7 <;> cases u7 <;> cases b8 <;> cases u8 <;> simp
  ·
   cases a1 <;> cases a2 <;> simp [gd] <;> cases u3 <;> cases b3 <;> cases u4 <;> cases b4 <;> simp <;> cases u5 <;> cases b5 <;> cases u6 <;> cases b6 <;> simp <;> cases b7 <;> cases u7 <;> cases b8 <;> cases u8 <;> simp
noncomputable def nM (e:bW):Bool :=
 cond (decide (e.Kind=1)) (pR e.Name&&wJ e.Key&&(dX e.Data&&aBU e.Data)&&inB e.N 0 4294967295) (cond (decide (e.Kind=2)) (decide (1≤e.N)) (cond (decide (e.Kind=5)) (inB e.Code 1 30) (cond (decide (e.Kind=8)) (inB e.N 1 1000) (cond (decide (e.Kind=11)) (inB e.Code 1 4)
 (cond (decide (e.Kind=10)||decide (e.Kind=22)||decide (e.Kind=25)) (decide ((e.Name.length:Int)≤4096)) (cond (decide (e.Kind=17)) (pR e.Name&&wJ e.Key) (cond (decide (e.Kind=20)) (xW e.Key).2 (cond (decide (e.Kind=26)) (wJ e.Key) (cond (decide (e.Kind=33)) (decide ((e.Name.length:Int)≤64)) true)))))))))
noncomputable def aJg (e:bW):Bool :=
 inB e.Kind 1 35&&inB e.ID 0 2000&&inB e.Time 0 1099511627776&&iY (jA e.Kind) e&&(if gH e.Kind=0 then nM e else jP ⟨gH e.Kind,e.Seq,e.Name,e.Key,e.N,e.Data,e.Opts⟩)
theorem aJV {e:bW} (h:gN e):zQ e=some (aJg e):=by
 have hd:dS e.Data:=h.2.2.2.2.2.2.2.2.2.1
 have hk:okS e.Key:=h.2.2.2.2.2.2.2.2.1
 unfold okS at hk
 unfold zQ aJg zB
 simp only [aJc,aPQ h,aHG,aFc,yS,aJW (show e.Key.length≤9223372036854775807 by omega),aJX hd,aLs (show e.Key.length≤140737488355328 by omega),aA,aJU (aTO h (aKD _))]
 cases inB e.Kind 1 35
 ·
  simp [gd]
 cases inB e.ID 0 2000
 ·
  simp [gd]
 cases inB e.Time 0 1099511627776
 ·
  simp [gd]
 cases iY (jA e.Kind) e
 ·
  simp [gd]
 simp only [bE,aZ,fW,gd,bQ,aA,cL,uI]
 split
 ·
  unfold nM
  simp only [or3,aA]
  generalize pR e.Name=a
  generalize wJ e.Key=b
  generalize (dX e.Data&&aBU e.Data)=c
  generalize inB e.N 0 4294967295=d
  have e1:((if (a==true)=true then some b else some default).bind fun (x4:Bool)=>(if ((cond a x4 false)==true)=true then some c else some default).bind fun (x6:Bool)=>(if ((cond (cond a x4 false) x6 false)==true)=true then some d else some default).bind fun (x8:Bool)=>some (cond (cond (cond a x4 false) x6 false) x8 false))=some (a&&b&&c&&d):=by
   cases a <;> cases b <;> cases c <;> rfl
  have e2:((if (a==true)=true then some b else some default).bind fun (x:Bool)=>some (cond a x false))=some (a&&b):=by cases a <;> rfl
  rw [e1,e2]
  simp only [aEL,Bool.or_assoc]
 ·
  rfl
theorem aOP {v:aF} (h:dX v=true):hD v iH=decide (v.Kind=0):=by
 rw [eZ,aKU (hgt v) v iH (fB _),cB]
 constructor
 ·
  rintro rfl;rfl
 ·
  intro hk
  unfold dX at h
  simp only [aY] at h
  have h2:fmd false v=true:=by first | exact h.2 | exact h.1 | exact h.1.2 | exact h.2.1
  rw [aFs] at h2
  simp only [aY] at h2
  have h3:=h2.1
  unfold aDe at h3
  rw [aT hk] at h3
  simp only [aY,cB] at h3
  obtain ⟨⟨⟨a,b⟩,c⟩,d⟩:=h3
  cases v
  simp only at *
  subst hk a b
  rw [eY c,eY d]
  rfl

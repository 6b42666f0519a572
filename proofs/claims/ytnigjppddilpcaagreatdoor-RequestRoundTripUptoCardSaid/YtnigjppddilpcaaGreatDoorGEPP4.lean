/- Plain laws: what the functions compute, with no program in sight. -/
import Derived.Test.YtnigjppddilpcaaGreatDoorGEPP3
import Derived.Test.YtnigjppddilpcaaGreatDoorGEPP1
import Derived.Test.YtnigjppddilpcaaGreatDoorGEF5
import Derived.Test.YtnigjppddilpcaaGreatDoorGEF12
import Derived.Test.YtnigjppddilpcaaGreatDoorGEF14
import Derived.Test.YtnigjppddilpcaaGreatDoorGEF17
import Derived.Test.YtnigjppddilpcaaGreatDoorGEF6
import Derived.Test.YtnigjppddilpcaaGreatDoorGEF18
import Derived.Test.YtnigjppddilpcaaGreatDoorGEF4
import Derived.Test.YtnigjppddilpcaaGreatDoorGEPP0
import Derived.Test.YtnigjppddilpcaaGreatDoorGEF10
import Derived.Test.YtnigjppddilpcaaGreatDoorGEF15
namespace Go.Proofs.YtnigjppddilpcaaGreatDoor
open Go Abs
set_option linter.unusedSimpArgs false
set_option linter.unusedVariables false
theorem uI {e:Int}{r:aD}{w:aM} (h:fZ e r w):∃ x e' r' w',dZ r=some (x,r')∧jB w=some (x,w')∧fZ e' r' w'∧lV x∧(e≠0→x=0∧e'=e)∧(e'=0→e=0):=by
 obtain ⟨x,e',r',w',h1,h2,h3,h4,h5,h6⟩:=aHJ (-9223372036854775808) 9223372036854775807 h
 exact ⟨x,e',r',w',by unfold dZ;rw [h1];rfl,by unfold jB;rw [h2];rfl,h3,h4,h5,h6⟩
theorem aIN {e:Int}{r:aD}{w:aM} (h:fZ e r w):∃ v e' r' w',jZ r=some (v,r')∧vF w=some (v,w')∧fZ e' r' w'∧bR v∧(e≠0→e'=e):=by
 obtain ⟨v,k,v',k',e',r',w',h1,h2,h3,h4,h5,h6⟩:=aKN 33 1 0 r w e h (by omega) (by omega) (by omega)
 have h1:=rD h1
 have h2:=yL h2
 unfold jZ vF
 rw [(kX h).1,h2]
 simp only [Option.bind_some]
 rw [xF k' h3]
 simp only [Option.bind_some]
 by_cases he1:e=1
 ·
  have hne:e≠0:=by omega
  have hst:=h6 hne
  rw [hst] at h3
  simp only [he1,decide_true,cond_true,Option.bind_some,Fl.next]
  refine ⟨zV,e,r,w',rfl,?_,h.trans_w h3 hne,aEc,fun _=>he1⟩
  simp [hst,he1,zV]
 ·
  simp only [he1,decide_false,cond_false,Option.bind_some,Fl.next]
  rw [h1]
  simp only [Option.bind_some]
  rw [(kX h3).1]
  simp only [Option.bind_some]
  by_cases he0:e'=0
  ·
   obtain ⟨rfl,rfl⟩:=h5 he0
   exact ⟨v,e',r',w',by simp [he0],by simp [he0],h3,h4,h6⟩
  ·
   exact ⟨zV,e',r',w',by simp [he0,zV],by simp [he0,zV],h3,aEc,h6⟩
theorem aDr {e:Int}{r:aD}{w:aM} (c:Bool) (h:fZ e r w):∃ r' w',(cond (cond (decide (e=(0:Int))) (!(if e=0 then c else false)) false) ((fE (3:Int) r).bind fun x=>some x) (some r))=some r'∧(cond (!c) ((gR (3:Int) w).bind fun x=>some x) (some w))=some w'∧fZ (eIf c e) r' w':=by
 obtain ⟨r',w',h3,h4,h5⟩:=aHI 3 h
 by_cases he:e=0
 ·
  cases c
  ·
   exact ⟨r',w',by simp [he,h3],by simp [h4],by simpa [eIf,he] using h5⟩
  ·
   exact ⟨r,w,by simp [he],by simp,by simpa [eIf,he] using h⟩
 ·
  have e1:eIf c e=e:=by unfold eIf;rw [if_neg he]
  rw [e1]
  cases c
  ·
   refine ⟨r,w',by simp [he],by simp [h4],?_⟩
   rw [if_neg he] at h5
   exact h.trans_w h5 he
  ·
   exact ⟨r,w,by simp [he],by simp,h⟩
def zP:bL:=⟨[],0,0,0,0,0,0,0,0,[]⟩
theorem aHb:eU zP:=by
 simp [eU,zP,lV,vC,wF]
theorem aKd {c:Bool}{e:Int} (h:e≠0):eIf c e=e:=by unfold eIf;rw [if_neg h]
theorem aL1 {e:Int}{r:aD}{w:aM} (h:fZ e r w):∃ o e' r' w',fT r=some (o,r')∧qR w=some (o,w')∧fZ e' r' w'∧eU o∧(e≠0→e'=e):=by
 obtain ⟨q,e0,r0,w0,a0,b0,l0,k0,z0,y0⟩:=aBr 4096 h
 obtain ⟨n1,e1,r1,w1,a1,b1,l1,k1,z1,y1⟩:=uI l0
 obtain ⟨n2,e2,r2,w2,a2,b2,l2,k2,z2,y2⟩:=uI l1
 obtain ⟨n3,e3,r3,w3,a3,b3,l3,k3,z3,y3⟩:=uI l2
 obtain ⟨n4,e4,r4,w4,a4,b4,l4,k4,z4,y4⟩:=uI l3
 obtain ⟨n5,e5,r5,w5,a5,b5,l5,k5,z5,y5⟩:=uI l4
 obtain ⟨n6,e6,r6,w6,a6,b6,l6,k6,z6,y6⟩:=uI l5
 obtain ⟨n7,e7,r7,w7,a7,b7,l7,k7,z7,y7⟩:=uI l6
 obtain ⟨n8,e8,r8,w8,a8,b8,l8,k8,z8,y8⟩:=uI l7
 obtain ⟨n9,e9,r9,w9,a9,b9,l9,k9,z9,y9⟩:=uI l8
 have hstay:e≠0→e9=e:=fun he=>by
  have h0:=(z0 he).2
  have h1:=(z1 (by omega)).2
  have h2:=(z2 (by omega)).2
  have h3:=(z3 (by omega)).2
  have h4:=(z4 (by omega)).2
  have h5:=(z5 (by omega)).2
  have h6:=(z6 (by omega)).2
  have h7:=(z7 (by omega)).2
  have h8:=(z8 (by omega)).2
  have h9:=(z9 (by omega)).2
  omega
 unfold fT qR
 rw [a0,b0]
 simp only [Option.bind_some,lF]
 rw [a1,b1]
 simp only [Option.bind_some]
 rw [a2,b2]
 simp only [Option.bind_some]
 rw [a3,b3]
 simp only [Option.bind_some]
 rw [a4,b4]
 simp only [Option.bind_some]
 rw [a5,b5]
 simp only [Option.bind_some]
 rw [a6,b6]
 simp only [Option.bind_some]
 rw [a7,b7]
 simp only [Option.bind_some]
 rw [a8,b8]
 simp only [Option.bind_some]
 rw [a9,b9]
 simp only [Option.bind_some]
 rw [(kX l9).1,zT,mF]
 simp only [Option.bind_some]
 have hg:∀ c:Bool,gd ((decide (e9=(0:Int)))==true) (some c)=some (if e9=0 then c else false):=fun c=>by by_cases h:e9=0 <;> simp [gd,h] <;> rfl
 rw [hg]
 simp only [Option.bind_some]
 obtain ⟨r10,w10,a10,b10,l10⟩:=aDr (inB n9 0 64) l9
 rw [a10,b10]
 simp only [Option.bind_some]
 obtain ⟨X,Y,m1,m2,fl,e11,hX,hY,l11,k11,hs11⟩:∃ X Y,dL (fB (n9,r9)) ((0:Int),r10,([]:List (List UInt8)))=some X∧dL (lN (n9,w9)) ((0:Int),w10,([]:List (List UInt8)))=some Y ∧
   ∃ fl e',X.2=fl∧Y.2=fl∧fZ e' X.1 Y.1∧wF 16 vC fl∧(eIf (inB n9 0 64) e9≠0→e'=eIf (inB n9 0 64) e9):=by
  let R:(Int × aD × List (List UInt8))→(Int × aM × List (List UInt8))→Prop:=fun s t=>∃ (i:Nat) (r:aD) (w:aM) (l:List (List UInt8)) (e:Int),s=((i:Int),r,l)∧t=((i:Int),w,l)∧fZ e r w∧l.length=i∧i≤64∧(∀ x∈l,x.length≤1000000000)∧(e=0→0≤n9∧n9≤64)∧(eIf (inB n9 0 64) e9≠0→e=eIf (inB n9 0 64) e9)
  have hok:∀ l:List (List UInt8),l.length≤64→(∀ x∈l,x.length≤1000000000)→wF 16 vC l:=fun l h1 h2=>⟨by omega,by omega,fun x hx=>by have:=h2 x hx;simp only [vC];omega⟩
  refine aFx R (fun s=>65 - s.1.toNat) (fun (X:aD × List (List UInt8)) (Y:aM × List (List UInt8))=>∃ fl e',X.2=fl∧Y.2=fl∧fZ e' X.1 Y.1∧wF 16 vC fl∧(eIf (inB n9 0 64) e9≠0→e'=eIf (inB n9 0 64) e9)) ?_ _ _ ⟨0,r10,w10,[],_,rfl,rfl,l10,rfl,by omega,by simp,fun h=>?_,fun _=>rfl⟩
  ·
   rintro s t ⟨i,r,w,l,e,rfl,rfl,hl,hlen,hi,hx,hn,hst⟩
   unfold fB
   by_cases hgo:(i:Int)<n9∧e=0
   ·
    obtain ⟨x,e',r',w',g1,g2,g3,g4,g5,g6⟩:=aBr 4096 hl
    have hn':=hn hgo.2
    have hi1:IntKind.i64.wrap ((i:Int)+1)=((i+1:Nat):Int):=by rw [w64 (by omega) (by omega)];omega
    refine .inl ⟨((i+1:Nat),r',l++[x]),((i+1:Nat),w',l++[x]),?_,?_,⟨i+1,r',w',l++[x],e',rfl,rfl,g3,by simp [hlen],by omega,?_,fun _=>hn',fun h=>absurd hgo.2 (by rw [hst h];exact h)⟩,by simp;omega⟩
    ·
     simp only
     rw [bE,if_pos hgo.1,(kX hl).1]
     simp only [Option.bind_some,hgo.2,decide_true,cond_true,Fl.next]
     rw [g1,Option.bind_some,jM (by simp;omega),Option.bind_some,hi1]
    ·
     unfold lN
     simp only
     rw [bE,if_pos hgo.1,(kX hl).2]
     simp only [Option.bind_some,hgo.2,decide_true,cond_true,Fl.next]
     rw [g2,Option.bind_some,jM (by simp;omega),Option.bind_some,hi1]
    ·
     intro y hy
     rcases List.mem_append.1 hy with hy | hy
     ·
      exact hx y hy
     ·
      rw [List.mem_singleton.1 hy];exact g4
   ·
    refine .inr ⟨(r,l),(w,l),?_,qB ?_,l,e,rfl,rfl,hl,hok l (by omega) hx,hst⟩
    ·
     simp only
     by_cases h1:(i:Int)<n9
     ·
      have h2:¬e=0:=fun h=>hgo ⟨h1,h⟩
      rw [bE,if_pos h1,(kX hl).1]
      simp [h2,Fl.next]
     ·
      rw [bE,if_neg h1];simp [Fl.next]
    ·
     unfold lN
     simp only
     by_cases h1:(i:Int)<n9
     ·
      have h2:¬e=0:=fun h=>hgo ⟨h1,h⟩
      rw [bE,if_pos h1,(kX hl).2]
      simp [h2,Fl.next]
     ·
      rw [bE,if_neg h1];simp [Fl.next]
  ·
   have:=(aM4.1 h).2
   unfold inB at this
   simpa using this
 rw [m1,m2]
 obtain ⟨rX,lX⟩:=X
 obtain ⟨wY,lY⟩:=Y
 simp only at hX hY l11
 subst hX hY
 have hokP:eU ⟨q,n1,n2,n3,n4,n5,n6,n7,n8,lY⟩:=⟨by simp only [vC];omega,k1,k2,k3,k4,k5,k6,k7,k8,k11⟩
 simp only [Option.bind_some]
 rw [(kX l11).1,vS hokP,rW hokP]
 simp only [Option.bind_some]
 have hg2:∀ c:Bool,gd ((decide (e11=(0:Int)))==true) (some c)=some (if e11=0 then c else false):=fun c=>by by_cases h:e11=0 <;> simp [gd,h] <;> rfl
 rw [hg2]
 simp only [Option.bind_some]
 obtain ⟨r12,w12,a12,b12,l12⟩:=aDr (mH ⟨q,n1,n2,n3,n4,n5,n6,n7,n8,lY⟩) l11
 rw [a12,b12]
 simp only [Option.bind_some]
 rw [(kX l12).1,(kX l12).2]
 have hst2:e≠0→eIf (mH ⟨q,n1,n2,n3,n4,n5,n6,n7,n8,lY⟩) e11=e:=fun he=>by
  have h9:=hstay he
  have h10:eIf (inB n9 0 64) e9=e9:=aKd (by omega)
  rw [h10] at hs11
  have h11:=hs11 (by omega)
  rw [aKd (by omega),h11,h9]
 by_cases he0:eIf (mH ⟨q,n1,n2,n3,n4,n5,n6,n7,n8,lY⟩) e11=0
 ·
  exact ⟨_,_,r12,w12,by simp [he0],by simp [he0],l12,hokP,hst2⟩
 ·
  exact ⟨zP,_,r12,w12,by simp [he0,zP],by simp [he0,zP],l12,aHb,hst2⟩
def zC:aP:=⟨0,0,[],[],0,zV,zP⟩
theorem aQm:eP zC:=⟨by simp [zC,lV],by simp [zC,lV],by simp [zC,vC],by simp [zC,vC],by simp [zC,lV],aEc,aHb⟩
theorem aKk {e:Int}{r:aD}{w:aM} (h:fZ e r w):∃ c e' r' w',iX r=some (c,r')∧zU w=some (c,w')∧fZ e' r' w'∧eP c∧(e≠0→e'=e):=by
 obtain ⟨n0,e0,r0,w0,a0,b0,l0,k0,z0,y0⟩:=uI h
 obtain ⟨n1,e1,r1,w1,a1,b1,l1,k1,z1,y1⟩:=uI l0
 obtain ⟨n2,e2,r2,w2,a2,b2,l2,k2,z2,y2⟩:=aBr 4096 l1
 obtain ⟨n3,e3,r3,w3,a3,b3,l3,k3,z3,y3⟩:=aBr 4096 l2
 obtain ⟨n4,e4,r4,w4,a4,b4,l4,k4,z4,y4⟩:=uI l3
 obtain ⟨n5,e5,r5,w5,a5,b5,l5,k5,z5⟩:=aIN l4
 obtain ⟨n6,e6,r6,w6,a6,b6,l6,k6,z6⟩:=aL1 l5
 have hstay:e≠0→e6=e:=fun he=>by
  have h0:=(z0 he).2
  have h1:=(z1 (by omega)).2
  have h2:=(z2 (by omega)).2
  have h3:=(z3 (by omega)).2
  have h4:=(z4 (by omega)).2
  have h5:=z5 (by omega)
  have h6:=z6 (by omega)
  omega
 have hokC:eP ⟨n0,n1,n2,n3,n4,n5,n6⟩:=⟨k0,k1,by simp only [vC];omega,by simp only [vC];omega,k4,k5,k6⟩
 unfold iX zU
 rw [a0,b0]
 simp only [Option.bind_some]
 rw [a1,b1]
 simp only [Option.bind_some]
 rw [a2,b2]
 simp only [Option.bind_some]
 rw [a3,b3]
 simp only [Option.bind_some]
 rw [a4,b4]
 simp only [Option.bind_some]
 rw [a5,b5]
 simp only [Option.bind_some]
 rw [a6,b6]
 simp only [Option.bind_some]
 rw [(kX l6).1,pI hokC,xZ hokC]
 simp only [Option.bind_some]
 have hg2:∀ c:Bool,gd ((decide (e6=(0:Int)))==true) (some c)=some (if e6=0 then c else false):=fun c=>by by_cases h:e6=0 <;> simp [gd,h] <;> rfl
 rw [hg2]
 simp only [Option.bind_some]
 obtain ⟨r12,w12,a12,b12,l12⟩:=aDr (iK ⟨n0,n1,n2,n3,n4,n5,n6⟩) l6
 rw [a12,b12]
 simp only [Option.bind_some]
 rw [(kX l12).1,(kX l12).2]
 have hst2:e≠0→eIf (iK ⟨n0,n1,n2,n3,n4,n5,n6⟩) e6=e:=fun he=>by
  have h9:=hstay he
  rw [aKd (by omega),h9]
 by_cases he0:eIf (iK ⟨n0,n1,n2,n3,n4,n5,n6⟩) e6=0
 ·
  exact ⟨_,_,r12,w12,by simp [he0],by simp [he0],l12,hokC,hst2⟩
 ·
  exact ⟨zC,_,r12,w12,by simp [he0,zC,zP,zV],by simp [he0,zC,zP,zV],l12,aQm,hst2⟩
end Go.Proofs.YtnigjppddilpcaaGreatDoor
namespace Go.Proofs.YtnigjppddilpcaaGreatDoor
open Go Abs
set_option linter.unusedSimpArgs false
set_option linter.unusedVariables false
end Go.Proofs.YtnigjppddilpcaaGreatDoor
namespace Go.Proofs.YtnigjppddilpcaaGreatDoor
open Go Abs
set_option linter.unusedSimpArgs false
set_option linter.unusedVariables false
theorem aJp:∀ (l:List UInt8) (k u w n:Nat),mX k u l=.inr (w,n)→mC (iE (l.take (n - k)))=l.take (n - k)∧(0<k→0<iE (l.take (n - k)))
 | [],k,u,w,n,h=>by simp only [mX] at h;split at h <;> cases h
 | c :: r,k,u,w,n,h=>by
  have hc:=c.toNat_lt
  simp only [mX] at h
  split at h
  ·
   cases h
  ·
   split at h
   ·
    obtain ⟨h0,_,_⟩:=aCX r _ _ _ _ h
    obtain ⟨h1,h2⟩:=aJp r _ _ _ _ h
    have h3:=h2 (by omega)
    rw [show n - k=(n - (k+1))+1 by omega,List.take_succ_cons,iE]
    generalize r.take (n - (k+1))=t at *
    rw [aBC (by omega),show (c.toNat % 128+128*iE t) / 128=iE t by omega,h1,show 128+(c.toNat % 128+128*iE t) % 128=c.toNat by omega]
    refine ⟨by simp,fun _=>by omega⟩
   ·
    rename_i h3
    split at h
    ·
     cases h
    ·
     rename_i h4
     cases h
     rw [show k+1 - k=0+1 by omega,List.take_succ_cons,List.take_zero,iE,iE,aAj (by omega),show c.toNat % 128+128*0=c.toNat by omega]
     exact ⟨by simp,fun _=>by omega⟩
theorem aJc {l:List UInt8}{low high:Int} (h:(fR l low high).2.2=0):mC (zz (fR l low high).1)=l.take (fR l low high).2.1:=by
 cases hs:mX 0 0 l with
 | inl e =>
  have:=aCW l 0 0 e hs
  simp only [fR,hs] at h
  omega
 | inr wk =>
  obtain ⟨w,k⟩:=wk
  obtain ⟨h1,h2,h3⟩:=aCX l 0 0 w k hs
  obtain ⟨h4,_⟩:=aJp l 0 0 w k hs
  simp only [fR,hs] at h ⊢
  by_cases hc:rH w<low∨high<rH w
  ·
   rw [if_pos hc] at h;simp at h
  ·
   rw [if_neg hc]
   simp only [aOZ]
   simp only [Nat.sub_zero,Nat.pow_zero,Nat.one_mul,Nat.zero_add] at h3 h4
   rw [h3,h4]
theorem aNF {l:List UInt8}{low high:Int} (h:(fR l low high).2.2=0):low≤(fR l low high).1:=by
 cases hs:mX 0 0 l with
 | inl e =>
  have:=aCW l 0 0 e hs
  simp only [fR,hs] at h
  omega
 | inr wk =>
  obtain ⟨w,k⟩:=wk
  simp only [fR,hs] at h ⊢
  by_cases hc:rH w<low∨high<rH w
  ·
   rw [if_pos hc] at h;simp at h
  ·
   rw [if_neg hc];simp only;omega
def uY (r:aD):Prop:=∃ (b:List UInt8) (a:Nat) (e:Int),b.length≤1000000000∧a≤b.length∧r=⟨b,a,e,true⟩
def tS (r r':aD) (x:List UInt8):Prop:=∀ rest,At r' rest→At r (x++rest)
theorem aDM (r:aD):tS r r []:=fun _ h=>h
theorem tS.trans {r s t:aD}{x y:List UInt8} (h:tS r s x) (k:tS s t y):tS r t (x++y):=fun rest ht=>by rw [List.append_assoc];exact h _ (k _ ht)
theorem xW {b:List UInt8}{a:Nat}{e:Int}{l:List UInt8} (he:e≠0):¬At ⟨b,a,e,true⟩ l:=by
 rintro ⟨b',a',_,_,h,_⟩
 simp only [aD.mk.injEq] at h
 exact he h.2.2.1
theorem aBp {r r':aD}{x low high:Int} (hv:uY r) (h:cW low high r=some (x,r')):uY r'∧tS r r' (iO x):=by
 obtain ⟨b,a,e,hb,ha,rfl⟩:=hv
 by_cases he:e=0
 ·
  subst he
  have hu:=vR (b.drop a) low high
  rw [List.length_drop] at hu
  rw [aDq ha hb] at h
  cases h
  refine ⟨⟨b,_,_,hb,by omega,rfl⟩,fun rest hr=>?_⟩
  by_cases h0:(fR (b.drop a) low high).2.2=0
  ·
   obtain ⟨b',a',_,_,h3,h4⟩:=hr
   unfold tT at h3
   simp only [aD.mk.injEq] at h3
   obtain ⟨rfl,h5,_,_⟩:=h3
   refine ⟨b,a,hb,ha,rfl,?_⟩
   have h6:a'=a+(fR (b.drop a) low high).2.1:=by omega
   subst h6
   rw [← h4,iO,aJc h0,← List.drop_drop,List.take_append_drop]
  ·
   exact absurd hr (xW (by omega))
 ·
  have:cW low high ⟨b,a,e,true⟩=some (0,⟨b,a,e,true⟩):=by unfold cW;rw [pK];simp [he]
  rw [this] at h
  cases h
  exact ⟨⟨b,a,e,hb,ha,rfl⟩,fun rest hr=>absurd hr (xW he)⟩
theorem vX {r r':aD}{x:List UInt8}{most:Int} (hv:uY r) (h:eC most r=some (x,r')):uY r'∧tS r r' (jY x):=by
 obtain ⟨b,a,e,hb,ha,rfl⟩:=hv
 by_cases he:e=0
 ·
  subst he
  have hu:=vR (b.drop a) 0 most
  rw [List.length_drop] at hu
  rw [aE2 ha hb] at h
  unfold aFL at h
  split at h
  ·
   rename_i h0
   cases h
   exact ⟨⟨b,_,_,hb,by omega,rfl⟩,fun rest hr=>absurd hr (xW (by omega))⟩
  ·
   rename_i h0
   split at h
   ·
    cases h
    exact ⟨⟨b,_,_,hb,by omega,rfl⟩,fun rest hr=>absurd hr (xW (by decide))⟩
   ·
    rename_i h1
    cases h
    have h0:(fR (b.drop a) 0 most).2.2=0:=Classical.byContradiction h0
    have hp:=aNF h0
    refine ⟨⟨b,_,_,hb,by omega,rfl⟩,fun rest hr=>?_⟩
    obtain ⟨b',a',_,_,h3,h4⟩:=hr
    simp only [aD.mk.injEq] at h3
    obtain ⟨rfl,h5,_,_⟩:=h3
    refine ⟨b,a,hb,ha,rfl,?_⟩
    have h6:a'=a+(fR (b.drop a) 0 most).2.1+(fR (b.drop a) 0 most).1.toNat:=by omega
    subst h6
    have hl:((b.drop (a+(fR (b.drop a) 0 most).2.1)).take (fR (b.drop a) 0 most).1.toNat).length=(fR (b.drop a) 0 most).1.toNat:=by rw [List.length_take,List.length_drop];omega
    have e1:b.drop (a+(fR (b.drop a) 0 most).2.1)=(b.drop a).drop (fR (b.drop a) 0 most).2.1:=by rw [List.drop_drop]
    have e2:b.drop (a+(fR (b.drop a) 0 most).2.1+(fR (b.drop a) 0 most).1.toNat)=((b.drop a).drop (fR (b.drop a) 0 most).2.1).drop (fR (b.drop a) 0 most).1.toNat:=by rw [List.drop_drop,List.drop_drop,Nat.add_assoc]
    rw [← h4,jY,hl,show (((fR (b.drop a) 0 most).1.toNat:Nat):Int)=(fR (b.drop a) 0 most).1 by omega,aJc h0,e2,e1,List.append_assoc,List.take_append_drop,List.take_append_drop]
 ·
  have:eC most ⟨b,a,e,true⟩=some ([],⟨b,a,e,true⟩):=by unfold eC cW;rw [pK];simp [he,pK]
  rw [this] at h
  cases h
  exact ⟨⟨b,a,e,hb,ha,rfl⟩,fun rest hr=>absurd hr (xW he)⟩
theorem aDi {r r':aD}{c t:Bool}{k:Int} (hv:uY r) (h:fD c k r=some (t,r')):uY r'∧(t=true→c=true∧r'=r)∧∀ rest,At r' rest→t=true:=by
 obtain ⟨b,a,e,hb,ha,rfl⟩:=hv
 unfold fD at h
 rw [aAO,aEN] at h
 by_cases he:e=0
 ·
  subst he
  cases c
  ·
   simp [aAO] at h
   obtain ⟨rfl,rfl⟩:=h
   exact ⟨⟨b,a,3,hb,ha,rfl⟩,fun h=>(by cases h),fun rest hr=>absurd hr (xW (by decide))⟩
  ·
   simp [aAO] at h
   obtain ⟨rfl,rfl⟩:=h
   exact ⟨⟨b,a,0,hb,ha,rfl⟩,fun _=>⟨rfl,rfl⟩,fun rest hr=>rfl⟩
 ·
  cases c
  ·
   simp [aAO,he] at h
   obtain ⟨rfl,rfl⟩:=h
   exact ⟨⟨b,a,e,hb,ha,rfl⟩,fun h=>(by cases h),fun rest hr=>absurd hr (xW he)⟩
  ·
   simp [aAO,he] at h
   obtain ⟨rfl,rfl⟩:=h
   exact ⟨⟨b,a,e,hb,ha,rfl⟩,fun h=>(by cases h),fun rest hr=>absurd hr (xW he)⟩
theorem yZ {r r':aD}{m:Option Bool}{k:Int} (hk:k≠0) (hv:uY r) (h:((dS r).bind fun (e:Int)=>(gd ((decide (e=(0:Int)))==true) m).bind fun (b:Bool)=>cond (cond (decide (e=(0:Int))) (!b) false) ((fE k r).bind fun (x:aD)=>some x) (some r))=some r') :
  uY r'∧∀ rest,At r' rest→r'=r∧m=some true:=by
 obtain ⟨b,a,e,hb,ha,rfl⟩:=hv
 rw [aAO,Option.bind_some] at h
 obtain ⟨y,e1,h⟩:=aG h
 by_cases he:e=0
 ·
  subst he
  have e2:=dW e1 (by decide)
  cases y
  ·
   rw [aEN] at h
   simp at h
   subst h
   exact ⟨⟨b,a,k,hb,ha,rfl⟩,fun rest hr=>absurd hr (xW hk)⟩
  ·
   simp at h
   subst h
   exact ⟨⟨b,a,0,hb,ha,rfl⟩,fun rest hr=>⟨rfl,e2⟩⟩
 ·
  simp [he] at h
  subst h
  exact ⟨⟨b,a,e,hb,ha,rfl⟩,fun rest hr=>absurd hr (xW he)⟩
theorem qI {r r':aD}{x:Int} (hv:uY r) (h:dZ r=some (x,r')):uY r'∧tS r r' (iO x):=by
 unfold dZ at h
 obtain ⟨⟨y,s⟩,h1,h⟩:=aG h
 simp only [Option.some.injEq,Prod.mk.injEq] at h
 obtain ⟨rfl,rfl⟩:=h
 exact aBp hv h1
theorem aNY {b:List UInt8}{r:aD} (hb:b.length≤1000000000) (h:rE b=some r):uY r:=by
 rw [aAo (by omega)] at h
 cases h
 exact ⟨b,0,0,hb,by omega,rfl⟩
theorem aFw {σ ρ:Type}{body:σ→Option (bS σ ρ)} (I:σ→Prop) (Q:ρ→Prop) (h1:∀ s s',I s→body s=some (.next s')→I s') (h2:∀ s x,I s→body s=some (.out x)→Q x) {s:σ}{x:ρ} (hs:I s) (h:dL body s=some x):Q x:=by
 obtain ⟨n,hn⟩:=wC h
 clear h
 induction n generalizing s with
 | zero=>cases hn
 | succ m ih =>
  simp only [uZ] at hn
  obtain ⟨st,e1,e2⟩:=aG hn
  cases st with
  | next s'=>exact ih (h1 _ _ hs e1) e2
  | out y=>cases e2;exact h2 _ _ hs e1
end Go.Proofs.YtnigjppddilpcaaGreatDoor
namespace Go.Proofs.YtnigjppddilpcaaGreatDoor
open Go Abs
set_option linter.unusedSimpArgs false
set_option linter.unusedVariables false
theorem aPp {r:aD}{l m:List UInt8} (h:At r l) (k:At r m):l=m:=by
 obtain ⟨b,a,_,_,rfl,h5⟩:=h
 obtain ⟨b',a',_,_,k3,k5⟩:=k
 simp only [aD.mk.injEq] at k3
 obtain ⟨rfl,k4,_⟩:=k3
 obtain rfl:a=a':=by omega
 rw [← h5,← k5]
theorem aMf {l:List UInt8}{low high:Int} (h:(fR l low high).2.2≠0):(fR l low high).1=0:=by
 unfold fR at h ⊢
 split
 ·
  rfl
 ·
  rename_i w n hs
  rw [hs] at h
  simp only at h ⊢
  split
  ·
   rfl
  ·
   rename_i hc
   rw [if_neg hc] at h
   exact absurd rfl h
theorem aNh {e e':Int}{r r':aD}{w w':aM}{x low high:Int} (hl:fZ e r w) (hl':fZ e' r' w') (h:cW low high r=some (x,r')) (he:e'≠0):x=0:=by
 obtain ⟨b,a,hb,ha,rfl,rfl⟩:=hl
 by_cases h0:e=0
 ·
  subst h0
  rw [aDq ha hb] at h
  cases h
  obtain ⟨b',a',_,_,h3,_⟩:=hl'
  unfold tT at h3
  simp only [aD.mk.injEq] at h3
  have:=h3.2.2.1
  exact aMf (by omega)
 ·
  have:cW low high ⟨b,a,e,true⟩=some (0,⟨b,a,e,true⟩):=by unfold cW;rw [pK];simp [h0]
  rw [this] at h
  cases h
  rfl
theorem aPB {e:Int}{r:aD}{w:aM} (h:fZ e r w):∃ x,gO r=some x∧sZ w=some x∧(x=0→At r []):=by
 obtain ⟨b,a,hb,ha,rfl,rfl⟩:=h
 unfold gO sZ
 rw [aAO,show iS ⟨true,if e=0 then b.drop a else [],e⟩=some e from rfl]
 by_cases he:e=0
 ·
  subst he
  have e2:(if (0:Int)=0 then b.drop a else [])=b.drop a:=if_pos rfl
  rw [e2]
  simp only [Option.bind_some,decide_true,Bool.not_true,cond_false,List.length_drop]
  rw [bE,bE]
  by_cases hlt:a<b.length
  ·
   rw [if_pos (by omega),if_pos (by omega)];exact ⟨3,rfl,rfl,fun h=>absurd h (by decide)⟩
  ·
   rw [if_neg (by omega),if_neg (by omega)];exact ⟨0,rfl,rfl,fun _=>⟨b,a,hb,ha,rfl,List.drop_eq_nil_of_le (by omega)⟩⟩
 ·
  refine ⟨e,by simp [he],by simp [he],fun h=>absurd h he⟩
end Go.Proofs.YtnigjppddilpcaaGreatDoor
namespace Go.Proofs.YtnigjppddilpcaaGreatDoor
open Go Abs
set_option linter.unusedSimpArgs false
set_option linter.unusedVariables false
theorem le_any {e:Int}{r:aD}{w:aM} (h:fZ e r w):∃ x e' r' w',fN r=some (x,r')∧nL w=some (x,w')∧fZ e' r' w'∧lV x∧(e'≠0→x=0):=by
 obtain ⟨x,e',r',w',h1,h2,h3,h4,h5,h6⟩:=aHJ (-9223372036854775808) 9223372036854775807 h
 exact ⟨x,e',r',w',by unfold fN;rw [h1];rfl,by unfold nL;rw [h2];rfl,h3,h4,fun he=>aNh h h3 h1 he⟩
theorem aFs {e:Int}{r:aD}{w:aM} (h:fZ e r w):∃ x e' r' w',hS r=some (x,r')∧eH 4096 w=some (x,w')∧fZ e' r' w'∧vC x:=by
 obtain ⟨x,e',r',w',h1,h2,h3,h4,h5,h6⟩:=aBr 4096 h
 exact ⟨x,e',r',w',by unfold hS;rw [h1];rfl,h2,h3,by unfold vC;omega⟩
theorem aL0 {n e:Int}{r q0:aD}{w q1:aM} (h:fZ e r w) (hn:n≤2000):∃ l e' r' w',dL (bF (n,q0)) (([]:List aP),(0:Int),r)=some (l,r')∧dL (iP (n,q1)) ((0:Int),w,([]:List aP))=some (w',l)∧fZ e' r' w'∧wF 240 eP l:=by
 have key:∃ x y,dL (bF (n,q0)) (([]:List aP),(0:Int),r)=some x∧dL (iP (n,q1)) ((0:Int),w,([]:List aP))=some y∧(∃ e,x.1=y.2∧fZ e x.2 y.1∧wF 240 eP x.1):=by
  refine aFx (fun (s:(List aP) × Int × aD) (t:Int × aM × (List aP))=>∃ (i:Nat) (l:List aP) (s2:aD) (t2:aM) (e:Int),s=(l,(i:Int),s2)∧t=((i:Int),t2,l)∧fZ e s2 t2∧l.length=i∧(i=0∨(i:Int)≤n)∧(∀ x∈l,eP x))
   (fun s=>(n - s.2.1).toNat) (fun (x:(List aP) × aD) (y:aM × (List aP))=>∃ e,x.1=y.2∧fZ e x.2 y.1∧wF 240 eP x.1) ?_ _ _ ⟨0,[],r,w,e,rfl,rfl,h,rfl,.inl rfl,by simp⟩
  rintro s t ⟨i,l,s2,t2,e,rfl,rfl,hl,hlen,hik,hok⟩
  have hend:(¬(i:Int)<n∨e≠0)→bF (n,q0) (l,(i:Int),s2)=some (.out (l,s2))∧iP (n,q1) ((i:Int),t2,l)=some (.out (t2,l)):=fun hc=>by
   unfold bF iP
   simp only
   by_cases hlt:(i:Int)<n
   ·
    have he:e≠0:=by rcases hc with h | h;exact absurd hlt h;exact h
    rw [bE,if_pos hlt,(kX hl).1,Option.bind_some,decide_eq_false he,bE,if_pos hlt,(kX hl).2,Option.bind_some,decide_eq_false he]
    exact ⟨rfl,rfl⟩
   ·
    rw [bE,if_neg hlt,bE,if_neg hlt]
    exact ⟨rfl,rfl⟩
  by_cases hgo:(i:Int)<n∧e=0
  ·
   obtain ⟨hlt,rfl⟩:=hgo
   obtain ⟨x,e',r',w',d1,d2,d3,d4,-⟩:=aKk hl
   have hw:IntKind.i64.wrap ((i:Int)+1)=((i+1:Nat):Int):=by rw [w64 (by omega) (by omega)];omega
   refine .inl ⟨(l++[x],((i+1:Nat):Int),r'),(((i+1:Nat):Int),w',l++[x]),?_,?_,⟨i+1,l++[x],r',w',e',rfl,rfl,d3,by simp [hlen],.inr (by omega),fun y hy=>?_⟩,by simp only;omega⟩
   ·
    unfold bF
    simp only
    rw [bE,if_pos hlt,(kX hl).1,Option.bind_some]
    simp only [decide_true,cond_true,Option.bind_some,Fl.next]
    rw [d1,Option.bind_some,jM (by simp only [List.length_cons,List.length_nil];omega),Option.bind_some,hw]
   ·
    unfold iP
    simp only
    rw [bE,if_pos hlt,(kX hl).2,Option.bind_some]
    simp only [decide_true,cond_true,Option.bind_some,Fl.next]
    rw [d2,Option.bind_some,jM (by simp only [List.length_cons,List.length_nil];omega),Option.bind_some,hw]
   ·
    rcases List.mem_append.1 hy with hy | hy
    ·
     exact hok y hy
    ·
     rw [List.mem_singleton.1 hy];exact d4
  ·
   obtain ⟨c1,c2⟩:=hend (by by_cases hlt:(i:Int)<n;exact .inr fun he=>hgo ⟨hlt,he⟩;exact .inl hlt)
   exact .inr ⟨(l,s2),(t2,l),c1,qB c2,e,rfl,hl,⟨by simp only;omega,by simp only;omega,hok⟩⟩
 obtain ⟨⟨l,r'⟩,⟨w',l2⟩,a,b,e',c1,c2,c3⟩:=key
 simp only at c1 c2 c3
 subst c1
 exact ⟨l,e',r',w',a,b,c2,c3⟩
theorem aHL {e most:Int}{r:aD}{w:aM} (h:fZ e r w) (h0:0≤most) (hm:most≤2000):∃ l e' r' w' n w1,cJ most r=some (l,r')∧aA3 most w=some (n,w1)∧dL (iP (n,w1)) ((0:Int),w1,([]:List aP))=some (w',l)∧fZ e' r' w'∧wF 240 eP l:=by
 obtain ⟨x,e1,r1,w1,a1,b1,l1,k1,z1⟩:=le_any h
 unfold cJ aA3
 rw [a1,b1,Option.bind_some,Option.bind_some]
 simp only
 rw [(kX l1).1,Option.bind_some,qE,aFT,Option.bind_some]
 cases hin:inB x 0 most
 ·
  have he:e1=0:=Classical.byContradiction fun hne=>by
   have:=z1 hne
   subst this
   unfold inB at hin
   simp at hin
   omega
  subst he
  obtain ⟨r2,w2,f1,f2,f3⟩:=aHI 3 l1
  rw [if_pos rfl] at f3
  simp only [decide_true,beq_self_eq_true,gd,if_true,Option.bind_some,Bool.not_false,cond_true]
  rw [f1,f2,Option.bind_some,Option.bind_some,Option.bind_some]
  have g1:dL (bF (x,r1)) (([]:List aP),(0:Int),r2)=some ([],r2):=by
   refine qB ?_
   unfold bF
   simp only
   by_cases hlt:(0:Int)<x
   ·
    rw [bE,if_pos hlt,(kX f3).1,Option.bind_some];rfl
   ·
    rw [bE,if_neg hlt];rfl
  have g2:dL (iP ((0:Int),w2)) ((0:Int),w2,([]:List aP))=some (w2,[]):=by
   refine qB ?_
   unfold iP
   rfl
  rw [g1,Option.bind_some]
  exact ⟨[],3,r2,w2,0,w2,rfl,rfl,g2,f3,⟨by simp,by simp,by simp⟩⟩
 ·
  have hx:x≤2000:=by
   unfold inB at hin
   simp only [Bool.and_eq_true,decide_eq_true_eq] at hin
   omega
  obtain ⟨l,e',r',w',m1,m2,m3,m4⟩:=aL0 (q0:=r1) (q1:=w1) l1 hx
  have hg:(gd ((decide (e1=(0:Int)))==true) (some true)).bind (fun (b:Bool)=>cond (cond (decide (e1=(0:Int))) (!b) false) ((fE (3:Int) r1).bind fun (x:aD)=>some x) (some r1))=some r1:=by
   by_cases he:e1=0
   ·
    simp [he,gd]
   ·
    simp [he,gd]
  rw [hg,Option.bind_some,m1,Option.bind_some,Bool.not_true,cond_false]
  exact ⟨l,e',r',w',x,w1,rfl,rfl,m2,m3,m4⟩
end Go.Proofs.YtnigjppddilpcaaGreatDoor
namespace Go.Proofs.YtnigjppddilpcaaGreatDoor
open Go Abs
set_option linter.unusedSimpArgs false
set_option linter.unusedVariables false
def zQ:aY:=⟨0,0,[],[],[],[],0,0,0,0,zV,zP,[],[]⟩
theorem aO8:fO zQ:=⟨by simp [zQ,lV],by simp [zQ,lV],by simp [zQ,vC],by simp [zQ,vC],by simp [zQ,vC],by simp [zQ,vC],by simp [zQ,lV],by simp [zQ,lV],by simp [zQ,lV],by simp [zQ,lV],aEc,aHb,⟨by simp [zQ],by simp [zQ],by simp [zQ]⟩,by simp [zQ,vC]⟩
theorem aKl {b:List UInt8} (hb:b.length≤1000000000):∃ q e,hF b=some (q,e)∧aCO b=some (q,e)∧fO q∧(e=0→mU q=true):=by
 obtain ⟨r,w,o1,o2,h⟩:=aOo hb
 obtain ⟨x1,e1,r1,w1,a1,b1,h1,k1,-⟩:=le_any h
 obtain ⟨x2,e2,r2,w2,a2,b2,h2,k2,-⟩:=le_any h1
 obtain ⟨x3,e3,r3,w3,a3,b3,h3,k3⟩:=aFs h2
 obtain ⟨x4,e4,r4,w4,a4,b4,h4,k4⟩:=aFs h3
 obtain ⟨x5,e5,r5,w5,a5,b5,h5,k5⟩:=aFs h4
 obtain ⟨x6,e6,r6,w6,a6,b6,h6,k6⟩:=aFs h5
 obtain ⟨x7,e7,r7,w7,a7,b7,h7,k7,-⟩:=le_any h6
 obtain ⟨x8,e8,r8,w8,a8,b8,h8,k8,-⟩:=le_any h7
 obtain ⟨x9,e9,r9,w9,a9,b9,h9,k9,-⟩:=le_any h8
 obtain ⟨y1,f1,s1,t1,c1,d1,g1,j1,-⟩:=le_any h9
 obtain ⟨y2,f2,s2,t2,c2,d2,g2,j2,-⟩:=aIN g1
 obtain ⟨y3,f3,s3,t3,n3,v3,c3,d3,d3',g3,j3⟩:=aHL (most:=200) g2 (by decide) (by decide)
 obtain ⟨y4,f4,s4,t4,c4,d4,g4,j4⟩:=aFs g3
 obtain ⟨y5,c5,d5,-⟩:=aPB g4
 have hq:fO (aY.mk x1 x2 x3 x4 x5 x6 x7 x8 x9 y1 y2 zP y3 y4):=⟨k1,k2,k3,k4,k5,k6,k7,k8,k9,j1,j2,aHb,j3,j4⟩
 unfold hF aCO
 rw [show (bL.mk [] 0 0 0 0 0 0 0 0 [])=zP from rfl,show (aC.mk 0 0 [] [] [])=zV from rfl,show (aY.mk 0 0 [] [] [] [] 0 0 0 0 zV zP [] [])=zQ from rfl]
 rw [o1,Option.bind_some,a1,Option.bind_some,a2,Option.bind_some,a3,Option.bind_some,a4,Option.bind_some,a5,Option.bind_some,a6,Option.bind_some,a7,Option.bind_some,a8,Option.bind_some,a9,Option.bind_some,c1,Option.bind_some,c2,Option.bind_some,c3,Option.bind_some,c4,Option.bind_some,c5,Option.bind_some]
 rw [o2,Option.bind_some,b1,Option.bind_some,b2,Option.bind_some,b3,Option.bind_some,b4,Option.bind_some,b5,Option.bind_some,b6,Option.bind_some,b7,Option.bind_some,b8,Option.bind_some,b9,Option.bind_some,d1,Option.bind_some,d2,Option.bind_some,d3,Option.bind_some,d3',Option.bind_some,d4,Option.bind_some,d5,Option.bind_some]
 rw [pM hq,yA hq,← aDx]
 by_cases hy:y5=0
 ·
  cases hr:mU (aY.mk x1 x2 x3 x4 x5 x6 x7 x8 x9 y1 y2 zP y3 y4)
  ·
   exact ⟨zQ,3,by simp [hy],by simp [hy],aO8,fun h=>absurd h (by decide)⟩
  ·
   exact ⟨_,0,by simp [hy],by simp [hy],hq,fun _=>hr⟩
 ·
  exact ⟨zQ,y5,by simp [hy],by simp [hy],aO8,fun h=>absurd h hy⟩
end Go.Proofs.YtnigjppddilpcaaGreatDoor
namespace Go.Proofs.YtnigjppddilpcaaGreatDoor
open Go Abs
set_option linter.unusedSimpArgs false
set_option linter.unusedVariables false
end Go.Proofs.YtnigjppddilpcaaGreatDoor
namespace Go.Proofs.YtnigjppddilpcaaGreatDoor
open Go Abs
set_option linter.unusedSimpArgs false
set_option linter.unusedVariables false
theorem aO7 (a:BitVec 32):BitVec.ofInt 32 (a.toNat:Int)=a:=by rw [BitVec.ofInt_natCast];simp
theorem w32 {n:Nat} (h:n<4294967296):IntKind.u32.wrap (n:Int)=(n:Int):=by
 simp only [IntKind.wrap,IntKind.bits,IntKind.signed]
 simp
 omega
theorem x32 (a b:BitVec 32):gM .xor .u32 (a.toNat:Int) (b.toNat:Int)=((a ^^^ b).toNat:Int):=by
 show IntKind.u32.wrap ((BitVec.ofInt 32 (a.toNat:Int) ^^^ BitVec.ofInt 32 (b.toNat:Int)).toNat:Int)=_
 rw [aO7,aO7,w32 (a ^^^ b).isLt]
end Go.Proofs.YtnigjppddilpcaaGreatDoor
namespace Go.Proofs.YtnigjppddilpcaaGreatDoor
open Go Abs
set_option linter.unusedSimpArgs false
set_option linter.unusedVariables false
end Go.Proofs.YtnigjppddilpcaaGreatDoor
namespace Go.Proofs.YtnigjppddilpcaaGreatDoor
open Go Abs
set_option linter.unusedSimpArgs false
set_option linter.unusedVariables false
theorem aPo {r:aD} (h:At r []):gO r=some 0:=by
 obtain ⟨b,a,h1,h2,rfl,h3⟩:=h
 have:¬a<b.length:=fun hh=>by
  have:=congrArg List.length h3
  simp only [List.length_drop,List.length_nil] at this;omega
 unfold gO dS
 simp only [Option.bind_some,decide_true,Bool.not_true,cond_false]
 rw [bE,if_neg (by omega)]
end Go.Proofs.YtnigjppddilpcaaGreatDoor
namespace Go.Proofs.YtnigjppddilpcaaGreatDoor
open Go Abs
set_option linter.unusedSimpArgs false
set_option linter.unusedVariables false
theorem aB0 {r:aD}{n:Int}{rest:List UInt8} (h:At r (iO n++rest)) (hn:lV n):∃ r',fN r=some (n,r')∧At r' rest:=by
 obtain ⟨r',h1,h2⟩:=aB1 (low:=-9223372036854775808) (high:=9223372036854775807) h hn hn.1 hn.2
 exact ⟨r',by unfold fN;rw [h1];rfl,h2⟩
theorem aFa {r:aD}{s rest:List UInt8} (h:At r (jY s++rest)) (hs:s.length≤4096):∃ r',hS r=some (s,r')∧At r' rest:=by
 obtain ⟨r',h1,h2⟩:=yX (most:=4096) h (by omega)
 exact ⟨r',by unfold hS;rw [h1];rfl,h2⟩
theorem aLE {r:aD}{s:List UInt8} (h:At r s) (hs:s≠[]):gO r=some 3:=by
 obtain ⟨b,a,h1,h2,rfl,rfl⟩:=h
 have:a<b.length:=Classical.byContradiction fun hh=>hs (List.drop_eq_nil_of_le (by omega))
 unfold gO dS
 simp only [Option.bind_some,decide_true,Bool.not_true,cond_false]
 rw [bE,if_pos (by omega)]
theorem aHB {r:aD}{l:List aP}{rest:List UInt8} (h:At r (iO l.length++(l.flatMap sO++rest))) (hl:l.length≤200) (hc:∀ c∈l,eP c∧iK c=true∧nsz c.Data≤1200):∃ r',cJ 200 r=some (l,r')∧At r' rest:=by
 obtain ⟨r1,a1,l1⟩:=aB0 h ⟨by omega,by omega⟩
 have hin:inB (l.length:Int) 0 200=true:=by unfold inB;simp;omega
 have hg:(gd ((decide ((0:Int)=(0:Int)))==true) (some true)).bind (fun (b:Bool)=>cond (cond (decide ((0:Int)=(0:Int))) (!b) false) ((fE (3:Int) r1).bind fun (x:aD)=>some x) (some r1))=some r1:=by simp [gd]
 have key:∃ x,dL (bF ((l.length:Int),r1)) (([]:List aP),(0:Int),r1)=some x∧x.1=l∧At x.2 rest:=by
  refine qK (fun s=>∃ i:Nat,s.1=l.take i∧s.2.1=(i:Int)∧i≤l.length∧At s.2.2 ((l.drop i).flatMap sO++rest)) (fun s=>l.length - s.2.1.toNat) _ ?_ _ ⟨0,rfl,rfl,by omega,l1⟩
  rintro ⟨acc,i0,r2⟩ ⟨i,ha,hi0,hi,hr⟩
  simp only at ha hi0 hr
  subst ha hi0
  unfold bF
  simp only
  by_cases hlt:i<l.length
  ·
   rw [aBx sO l i hlt,List.append_assoc] at hr
   obtain ⟨r3,d1,d2⟩:=(by obtain ⟨q1,q2,q3⟩:=hc _ (List.getElem_mem hlt);exact aMV hr q1 q2 q3)
   rw [bE,if_pos (by omega),mD hr,Option.bind_some]
   simp only [decide_true,cond_true,Option.bind_some,Fl.next]
   rw [d1,Option.bind_some,jM (by simp only [List.length_take,List.length_cons,List.length_nil];omega),Option.bind_some]
   refine .inl ⟨_,rfl,⟨i+1,?_,kR hlt (by omega),hlt,d2⟩,by simp only;rw [kR hlt (by omega)];simp only [Int.toNat_natCast];omega⟩
   simp only
   rw [List.take_succ_eq_append_getElem hlt]
  ·
   obtain rfl:i=l.length:=by omega
   rw [bE,if_neg (by omega)]
   refine .inr ⟨_,rfl,List.take_length,?_⟩
   rw [List.drop_length] at hr
   exact hr
 obtain ⟨⟨m,r4⟩,k1,k2,k3⟩:=key
 simp only at k2 k3
 subst k2
 unfold cJ
 rw [a1,Option.bind_some]
 simp only
 rw [mD l1,Option.bind_some,qE,hin,hg,Option.bind_some,k1,Option.bind_some]
 exact ⟨r4,rfl,k3⟩
theorem aLc {s:List UInt8} (h:aCh s=true):s.length≤4096:=by
 unfold aCh at h
 simp only [Bool.or_eq_true,decide_eq_true_eq] at h
 rcases h with h | h
 ·
  rw [h];simp
 ·
  rcases aEb s with ⟨v,h1,h2,h3,h4⟩ | ⟨h1,h2⟩
  ·
   rw [← h3,aFX h1]
   have:=aCx 18 v.toNat (by omega)
   simp only [List.length_cons];omega
  ·
   rw [h2] at h;cases h
theorem idK:∀ i:Fin 18,(nH (i.1:Int)).id_=true→i.1=1∨i.1=2∨i.1=3∨i.1=5∨i.1=15:=by decide
theorem aQw {q:aY} (hr:mU q=true):q.Workflow.length≤4096∧q.Run.length≤4096∧q.ID.length≤4096∧q.Name.length≤4096∧q.Parent.length≤4096∧q.Opts=zP:=by
 unfold mU at hr
 simp only [Bool.and_eq_true,decide_eq_true_eq] at hr
 obtain ⟨h1,h2,h3,h4,h5,h6,h7,h8,h9,h10,h11,h12,h13,h14,h15⟩:=hr
 unfold uM at h3
 simp only [Bool.and_eq_true,Bool.or_eq_true,decide_eq_true_eq] at h3
 obtain ⟨⟨⟨⟨⟨⟨⟨⟨⟨b1,b2⟩,b3⟩,b4⟩,b5⟩,b6⟩,b7⟩,b8⟩,b9⟩,b10⟩:=h3
 have hi:∀ {s:List UInt8},jH s=true→s.length≤64:=fun h=>by
  unfold jH at h
  simp only [Bool.and_eq_true,decide_eq_true_eq] at h
  exact h.1.2
 refine ⟨?_,aLc h6,?_,?_,?_,aFI b10⟩
 ·
  split at h5
  ·
   simp only [decide_eq_true_eq] at h5;rw [h5];simp
  ·
   have:=hi h5;omega
 ·
  rcases b1 with b1 | b1
  ·
   unfold inB at h1
   simp only [Bool.and_eq_true,decide_eq_true_eq] at h1
   have hk:=idK ⟨q.Kind.toNat,by omega⟩
   simp only at hk
   rw [show ((q.Kind.toNat:Nat):Int)=q.Kind by omega] at hk
   have hk:=hk b1
   unfold zJ at h15
   by_cases hk15:q.Kind=15
   ·
    rw [if_pos hk15] at h15
    simp only [Bool.and_eq_true] at h15
    exact aLc h15.1
   ·
    rw [if_neg hk15,if_neg (by omega),if_neg (by omega),if_neg (by omega),b1] at h15
    simp only [Bool.and_eq_true,Bool.not_true,Bool.false_or] at h15
    have:=hi h15.1
    omega
  ·
   rw [b1];simp
 ·
  rcases b2 with b2 | b2
  ·
   unfold zJ at h15
   split at h15
   ·
    simp only [Bool.and_eq_true,decide_eq_true_eq] at h15;omega
   ·
    split at h15
    ·
     simp only [decide_eq_true_eq] at h15;omega
    ·
     split at h15
     ·
      simp only [decide_eq_true_eq] at h15;omega
     ·
      split at h15
      ·
       have:=hi h15;omega
      ·
       rw [b2] at h15
       simp only [Bool.and_eq_true,Bool.not_true,Bool.false_or] at h15
       have:=aB5 h15.2
       omega
  ·
   rw [b2];simp
 ·
  unfold aGx at h11
  simp only [Bool.and_eq_true,Bool.or_eq_true,decide_eq_true_eq] at h11
  rcases h11 with h | h
  ·
   rw [h];simp
  ·
   omega
theorem zY {q:aY}{s:List UInt8} (h:fO q) (hs:qsm q) (hr:mU q=true) (hl:(uN q++s).length≤1000000000):hF (uN q++s)=some (if s=[] then (q,0) else (zQ,3)):=by
 obtain ⟨l1,l2,l3,l4,l5,l6⟩:=aQw hr
 obtain ⟨p1,p2,p3⟩:=rS hr
 have hcm:=aNC h hs hr
 have hh:=h
 obtain ⟨k0,k1,k2,k3,k4,k5,k6,k7,k8,k9,k10,k11,k12,k13⟩:=h
 obtain ⟨r,o1,o2⟩:=aKV hl
 have he:uN q++s=iO q.Kind++(iO q.Time++(jY q.Workflow++(jY q.Run++(jY q.ID++(jY q.Name++(iO q.Token++(iO q.Event++(iO q.Seq++(iO q.N++(kA q.Data++(iO q.Commands.length++(q.Commands.flatMap sO++(jY q.Parent++s))))))))))))):=by
  unfold uN sK uA
  simp only [List.flatMap_cons,List.flatMap_nil,List.append_nil,List.append_assoc]
 rw [he] at o2
 obtain ⟨r1,a1,t1⟩:=aB0 o2 k0
 obtain ⟨r2,a2,t2⟩:=aB0 t1 k1
 obtain ⟨r3,a3,t3⟩:=aFa t2 l1
 obtain ⟨r4,a4,t4⟩:=aFa t3 l2
 obtain ⟨r5,a5,t5⟩:=aFa t4 l3
 obtain ⟨r6,a6,t6⟩:=aFa t5 l4
 obtain ⟨r7,a7,t7⟩:=aB0 t6 k6
 obtain ⟨r8,a8,t8⟩:=aB0 t7 k7
 obtain ⟨r9,a9,t9⟩:=aB0 t8 k8
 obtain ⟨r10,a10,t10⟩:=aB0 t9 k9
 obtain ⟨r11,a11,t11⟩:=xR t10 k10 p1 (aDt p1 hs.2.2.2.2.2.1)
 obtain ⟨r12,a12,t12⟩:=aHB t11 p2 hcm
 obtain ⟨r13,a13,t13⟩:=aFa t12 l5
 unfold hF
 rw [show (bL.mk [] 0 0 0 0 0 0 0 0 [])=zP from rfl,show (aC.mk 0 0 [] [] [])=zV from rfl,show (aY.mk 0 0 [] [] [] [] 0 0 0 0 zV zP [] [])=zQ from rfl]
 rw [o1,Option.bind_some,a1,Option.bind_some,a2,Option.bind_some,a3,Option.bind_some,a4,Option.bind_some,a5,Option.bind_some,a6,Option.bind_some,a7,Option.bind_some,a8,Option.bind_some,a9,Option.bind_some,a10,Option.bind_some,a11,Option.bind_some,a12,Option.bind_some,a13,Option.bind_some]
 have hq:(aY.mk q.Kind q.Time q.Workflow q.Run q.ID q.Name q.Token q.Event q.Seq q.N q.Data zP q.Commands q.Parent)=q:=by rw [← l6]
 rw [hq]
 by_cases hs0:s=[]
 ·
  subst hs0
  rw [aPo t13,Option.bind_some,pM hh,hr]
  simp
 ·
  rw [aLE t13 hs0,Option.bind_some]
  simp [hs0]
end Go.Proofs.YtnigjppddilpcaaGreatDoor
namespace Go.Proofs.YtnigjppddilpcaaGreatDoor
open Go Abs
set_option linter.unusedSimpArgs false
set_option linter.unusedVariables false
def q14:aY:=⟨14,3,[],[],[],[],0,0,0,0,⟨0,0,[],[],[]⟩,⟨[],0,0,0,0,0,0,0,0,[]⟩,[],[]⟩
def q02:aY:=⟨2,0,[119],[],[97,47,98],[115],0,0,0,0,⟨0,0,[],[],[]⟩,⟨[],0,0,0,0,0,0,0,0,[]⟩,[],[]⟩
theorem aKo:fO q14:=⟨by simp [q14,lV],by simp [q14,lV],by simp [q14,vC],by simp [q14,vC],by simp [q14,vC],by simp [q14,vC],by simp [q14,lV],by simp [q14,lV],by simp [q14,lV],by simp [q14,lV],aEc,aHb,⟨by simp [q14],by simp [q14],by simp [q14]⟩,by simp [q14,vC]⟩
theorem aPH:fO q02:=⟨by simp [q02,lV],by simp [q02,lV],by simp [q02,vC],by simp [q02,vC],by simp [q02,vC],by simp [q02,vC],by simp [q02,lV],by simp [q02,lV],by simp [q02,lV],by simp [q02,lV],aEc,aHb,⟨by simp [q02],by simp [q02],by simp [q02]⟩,by simp [q02,vC]⟩
theorem aNQ:qsm q14:=aKs (by decide +kernel)
theorem aPZ:qsm q02:=aKs (by decide +kernel)
theorem aPe:mU q14=true:=by decide +kernel
theorem aQy:mU q02=false:=by decide +kernel
theorem aM5:uN q14=[28,6,0,0,0,0,0,0,0,0,0,0,0]:=by decide +kernel
theorem aLr:nD=some true:=by
 unfold nD
 rw [show aY.mk 14 _ _ _ _ _ _ _ _ _ _ _ _ _=q14 from rfl,show aY.mk 2 _ _ _ _ _ _ _ _ _ _ _ _ _=q02 from rfl,(aCa aKo aNQ).1,(aCa aPH aPZ).1]
 have h1:aEu q14=(uN q14,0):=by unfold aEu;rw [aPe,if_pos rfl,if_neg (by rw [aM5];decide)]
 have h2:aEu q02=([],3):=by unfold aEu;rw [aQy];rfl
 have h3:=zY (s:=[]) aKo aNQ aPe (by rw [aM5];decide)
 rw [List.append_nil,if_pos rfl] at h3
 rw [h1,h2,Option.bind_some]
 simp only
 rw [h3,Option.bind_some,Option.bind_some,aA2 aKo,aM5]
 rfl
end Go.Proofs.YtnigjppddilpcaaGreatDoor
namespace Go.Proofs.YtnigjppddilpcaaGreatDoor
open Go Abs
set_option linter.unusedSimpArgs false
set_option linter.unusedVariables false
def aEl (v:aC):List UInt8:=if v.Kind=1∨v.Kind=2∨v.Kind=6 then iO v.Int else if v.Kind=3 then jY v.Text else if v.Kind=4 then iO v.Items.length++v.Items.flatMap kA else if v.Kind=5 then iO v.Items.length++(v.Items.zip v.Keys).flatMap fun p=>jY p.2++kA p.1 else []
theorem aHo (v:aC):kA v=iO v.Kind++aEl v:=aC2 v
def E2 (kd:Int) (items:List aC) (keys:List (List UInt8)):List UInt8:=if kd=4 then items.flatMap kA else (items.zip keys).flatMap fun p=>jY p.2++kA p.1
theorem aQS {items:List aC}{keys keys':List (List UInt8)}{v:aC}:E2 4 (items++[v]) keys'=E2 4 items keys++kA v:=by unfold E2;rw [if_pos rfl,if_pos rfl,List.flatMap_append];simp
theorem aQT {items:List aC}{keys:List (List UInt8)}{v:aC}{t:List UInt8} (h:keys.length=items.length):E2 5 (items++[v]) (keys++[t])=E2 5 items keys++(jY t++kA v):=by
 unfold E2
 rw [if_neg (by decide),if_neg (by decide),List.zip_append h.symm,List.flatMap_append]
 simp
def aMG (rd:Int→Int→aD→Option (aC × Int × aD)):Prop:=∀ (d k:Int) (r:aD) (v:aC) (k':Int) (r':aD),uY r→rd d k r=some (v,k',r')→uY r'∧tS r r' (kA v)
theorem aFp {rd:Int→Int→aD→Option (aC × Int × aD)} (ih:aMG rd) {n kd d i k:Int}{r1 r:aD}{items:List aC}{keys:List (List UInt8)}{st:bS (Int × Int × aD × (List aC) × (List (List UInt8))) (Fl (aC × Int × aD) (Int × aD × (List aC) × (List (List UInt8))))}
  (hk:kd=4∨kd=5) (hv:uY r) (h:cQ rd (n,r1) kd d (i,k,r,items,keys)=some st) :
  (¬i<n∧st=.out (.go (k,r,items,keys)))∨(i<n∧∃ v k' r',st=.out (.done (v,k',r'))∧uY r'∧∀ rest,¬At r' rest) ∨
  (i<n∧∃ v k' r' keys',st=.next (IntKind.i64.wrap (i+1),k',r',items++[v],keys')∧uY r'∧((kd=4∧tS r r' (kA v))∨(kd=5∧∃ t,keys'=keys++[t]∧tS r r' (jY t++kA v)))):=by
 unfold cQ at h
 simp only at h
 rw [bE] at h
 by_cases hi:i<n
 ·
  rw [if_pos hi] at h
  obtain ⟨x12,hx,h⟩:=aG h
  have key:(∃ v k' r',x12=.done (.out (.done (v,k',r')))∧uY r'∧∀ rest,¬At r' rest)∨∃ r2 keys2,x12=.go (r2,keys2)∧uY r2∧((kd=4∧keys2=keys∧r2=r)∨(kd=5∧∃ t,keys2=keys++[t]∧tS r r2 (jY t))):=by
   rcases hk with rfl | rfl
   ·
    simp only [Int.reduceEq,decide_false,cond_false,Option.some.injEq] at hx
    exact .inr ⟨_,_,hx.symm,hv,.inl ⟨rfl,rfl,rfl⟩⟩
   ·
    simp only [decide_true,cond_true] at hx
    obtain ⟨⟨t,r2⟩,e1,hx⟩:=aG hx
    obtain ⟨p,e2,hx⟩:=aG hx
    obtain ⟨⟨b,r3⟩,e3,hx⟩:=aG hx
    obtain ⟨w1,w2⟩:=vX hv e1
    obtain ⟨w3,w4,w5⟩:=aDi w1 e3
    cases b
    ·
     simp only [Bool.not_false,cond_true,Option.some.injEq] at hx
     exact .inl ⟨_,_,_,hx.symm,w3,fun rest hr=>by cases w5 rest hr⟩
    ·
     obtain ⟨_,rfl⟩:=w4 rfl
     simp only [Bool.not_true,cond_false] at hx
     obtain ⟨ks,e4,hx⟩:=aG hx
     obtain ⟨_,rfl⟩:=vU e4
     simp only [Option.some.injEq] at hx
     exact .inr ⟨_,_,hx.symm,w3,.inr ⟨rfl,t,rfl,w2⟩⟩
  rcases key with ⟨v,k',r',rfl,a,b⟩ | ⟨r2,keys2,rfl,a,b⟩
  ·
   simp only [Fl.next,Option.some.injEq] at h
   exact .inr (.inl ⟨hi,v,k',r',h.symm,a,b⟩)
  ·
   simp only [Fl.next] at h
   obtain ⟨⟨v,k',r'⟩,e1,h⟩:=aG h
   obtain ⟨e,e2,h⟩:=aG h
   obtain ⟨c1,c2⟩:=ih _ _ _ _ _ _ a e1
   by_cases he:e=0
   ·
    simp only [he,decide_true,Bool.not_true,cond_false] at h
    obtain ⟨its,e4,h⟩:=aG h
    obtain ⟨_,rfl⟩:=vU e4
    simp only [Option.some.injEq] at h
    refine .inr (.inr ⟨hi,v,k',r',keys2,h.symm,c1,?_⟩)
    rcases b with ⟨rfl,rfl,rfl⟩ | ⟨rfl,t,rfl,w⟩
    ·
     exact .inl ⟨rfl,c2⟩
    ·
     exact .inr ⟨rfl,t,rfl,w.trans c2⟩
   ·
    simp only [he,decide_false,Bool.not_false,cond_true,Option.some.injEq] at h
    exact .inr (.inl ⟨hi,_,_,_,h.symm,c1,fun rest hr=>he (by rw [mD hr] at e2;cases e2;rfl)⟩)
 ·
  rw [if_neg hi] at h
  simp only [Option.some.injEq] at h
  exact .inl ⟨hi,h.symm⟩
def QI (n kd:Int) (R0:aD):Fl (aC × Int × aD) (Int × aD × List aC × List (List UInt8))→Prop
 | .done x=>uY x.2.2∧∀ rest,¬At x.2.2 rest
 | .go j=>uY j.2.1∧tS R0 j.2.1 (E2 kd j.2.2.1 j.2.2.2)∧(j.2.2.1.length:Int)=n
theorem aLX {m:Nat} (ih:aMG (bX m)) {kd d k k':Int}{r r':aD}{v:aC} (hk:kd=4∨kd=5) (hv:uY r) (h:eE (m+1) kd 0 [] d k r=some (v,k',r')) :
  uY r'∧∀ rest,At r' rest→v.Kind=kd∧At r (iO v.Items.length++(E2 kd v.Items v.Keys++rest)):=by
 rw [eE] at h
 obtain ⟨⟨n,r1⟩,h1,h⟩:=aG h
 obtain ⟨⟨t,r2⟩,h2,h⟩:=aG h
 obtain ⟨v1,a1⟩:=aBp hv h1
 obtain ⟨v2,a2,a3⟩:=aDi v1 h2
 cases t with
 | false =>
  simp only [Bool.not_false,cond_true,Option.some.injEq,Prod.mk.injEq] at h
  obtain ⟨rfl,rfl,rfl⟩:=h
  exact ⟨v2,fun rest hr=>by cases a3 rest hr⟩
 | true =>
  obtain ⟨c1,e1⟩:=a2 rfl
  subst e1
  simp only [Bool.not_true,cond_false] at h
  obtain ⟨x7,h3,h⟩:=aG h
  have hn:0≤n∧n≤1000:=by
   by_cases h0:0≤n
   ·
    by_cases h9:n≤1000
    ·
     exact ⟨h0,h9⟩
    ·
     simp [h0,h9] at c1
   ·
    simp [h0] at c1
  have key:QI n kd r2 x7:=by
   refine aFw (fun s:Int × Int × aD × List aC × List (List UInt8)=>∃ i:Nat,s.1=(i:Int)∧(i:Int)≤n∧s.2.2.2.1.length=i∧(kd=5→s.2.2.2.2.length=i)∧uY s.2.2.1∧tS r2 s.2.2.1 (E2 kd s.2.2.2.1 s.2.2.2.2)) (QI n kd r2) ?_ ?_ ⟨0,rfl,hn.1,rfl,fun _=>rfl,v1,?_⟩ h3
   ·
    rintro ⟨i0,k0,r0,items,keys⟩ s' ⟨i,hi,hin,hl,hl5,w,tk⟩ hb
    simp only at hi hin hl hl5 w tk
    subst hi
    rcases aFp ih hk w hb with ⟨_,e⟩ | ⟨_,_,_,_,e,_⟩ | ⟨hlt,v,k',r',keys',e,w1,w2⟩
    ·
     cases e
    ·
     cases e
    ·
     cases e
     refine ⟨i+1,by simp only;rw [w64 (by omega) (by omega)];omega,by omega,by simp only [List.length_append,List.length_cons,List.length_nil];omega,?_,w1,?_⟩
     ·
      intro h5
      rcases w2 with ⟨h4,_⟩ | ⟨_,t,rfl,_⟩
      ·
       omega
      ·
       have:=hl5 h5
       simp only [List.length_append,List.length_cons,List.length_nil];omega
     ·
      rcases w2 with ⟨rfl,w2⟩ | ⟨rfl,t,rfl,w2⟩
      ·
       simp only
       rw [aQS (keys:=keys)]
       exact tk.trans w2
      ·
       simp only
       rw [aQT (by rw [hl5 rfl,hl])]
       exact tk.trans w2
   ·
    rintro ⟨i0,k0,r0,items,keys⟩ x ⟨i,hi,hin,hl,hl5,w,tk⟩ hb
    simp only at hi hin hl hl5 w tk
    subst hi
    rcases aFp ih hk w hb with ⟨hge,e⟩ | ⟨_,_,_,_,e,w1,w2⟩ | ⟨hlt,v,k',r',keys',e,w1,w2⟩
    ·
     cases e
     exact ⟨w,tk,by simp only;omega⟩
    ·
     cases e
     exact ⟨w1,w2⟩
    ·
     cases e
   ·
    have:E2 kd [] []=[]:=by unfold E2;split <;> rfl
    simp only [this]
    exact aDM _
  cases x7 with
  | done y =>
   simp only [Fl.next,Option.some.injEq] at h
   subst h
   exact ⟨key.1,fun rest hr=>absurd hr (key.2 rest)⟩
  | go j =>
   obtain ⟨k0,r0,items,keys⟩:=j
   simp only [Fl.next,Option.some.injEq,Prod.mk.injEq] at h
   obtain ⟨rfl,rfl,rfl⟩:=h
   obtain ⟨q1,q2,q3⟩:=key
   simp only at q1 q2 q3
   refine ⟨q1,fun rest hr=>⟨rfl,?_⟩⟩
   have:=a1 _ (q2 rest hr)
   rw [← q3] at this
   exact this
theorem k45 (K:Int):(cond (decide (K=(4:Int))) (some (decide (K=(4:Int)))) (some (decide (K=(5:Int)))))=some (decide (K=4∨K=5)):=by
 by_cases h4:K=4 <;> by_cases h5:K=5 <;> simp [h4,h5]
theorem aMw:∀ n:Nat,aMG (bX n):=by
 intro n
 induction n using Nat.strongRecOn with
 | _ n ih =>
  intro d k r v k' r' hv h
  cases n with
  | zero=>rw [bX] at h;cases h
  | succ m =>
   rw [bX] at h
   obtain ⟨⟨t,r1⟩,h1,h'⟩:=aG h
   clear h
   have h:=h'
   clear h'
   obtain ⟨w1,a1,b1⟩:=aDi hv h1
   cases t with
   | false =>
    simp only [Bool.not_false,cond_true,Option.some.injEq,Prod.mk.injEq] at h
    obtain ⟨rfl,rfl,rfl⟩:=h
    exact ⟨w1,fun rest hr=>by cases b1 rest hr⟩
   | true =>
    obtain ⟨_,e1⟩:=a1 rfl
    subst e1
    simp only [Bool.not_true,cond_false] at h
    obtain ⟨⟨K,r2⟩,h2,h'⟩:=aG h
    clear h
    have h:=h'
    clear h'
    obtain ⟨w2,a2⟩:=aBp hv h2
    obtain ⟨⟨t2,r3⟩,h3,h'⟩:=aG h
    clear h
    have h:=h'
    clear h'
    obtain ⟨w3,a3,b3⟩:=aDi w2 h3
    cases t2 with
    | false =>
     simp only [Bool.not_false,cond_true,Option.some.injEq,Prod.mk.injEq] at h
     obtain ⟨rfl,rfl,rfl⟩:=h
     exact ⟨w3,fun rest hr=>by cases b3 rest hr⟩
    | true =>
     obtain ⟨cK,e3⟩:=a3 rfl
     subst e3
     simp only [Bool.not_true,cond_false] at h
     obtain ⟨x,hx,h⟩:=aG h
     have hK:0≤K∧K≤5:=by
      by_cases h0:0≤K
      ·
       by_cases h9:K≤5
       ·
        exact ⟨h0,h9⟩
       ·
        simp [h0,h9] at cK
      ·
       simp [h0] at cK
     have key:(∃ v k' r',x=.done (v,k',r')∧uY r'∧∀ rest,At r' rest→v.Kind=K∧At r3 (aEl v++rest))∨∃ r4 i s,x=.go (r4,i,s)∧uY r4∧∀ rest,At r4 rest→At r3 (aEl ⟨K,i,s,[],[]⟩++rest):=by
      rw [bE] at hx
      by_cases hK1:K=1
      ·
       rw [if_pos hK1] at hx
       obtain ⟨⟨i,r4⟩,e1,hx⟩:=aG hx
       obtain ⟨⟨t,r5⟩,e2,hx⟩:=aG hx
       obtain ⟨u1,u2⟩:=aBp w3 e1
       obtain ⟨u3,u4,u5⟩:=aDi u1 e2
       simp only [Option.some.injEq] at hx
       refine .inr ⟨_,_,_,hx.symm,u3,fun rest hr=>?_⟩
       obtain ⟨_,e5⟩:=u4 (u5 rest hr)
       subst e5
       have:=u2 rest hr
       unfold aEl
       rw [if_pos (.inl hK1)]
       exact this
      rw [if_neg hK1,bE] at hx
      by_cases hK2:K=2
      ·
       rw [if_pos hK2] at hx
       obtain ⟨⟨i,r4⟩,e1,hx⟩:=aG hx
       obtain ⟨u1,u2⟩:=aBp w3 e1
       simp only [Option.some.injEq] at hx
       refine .inr ⟨_,_,_,hx.symm,u1,fun rest hr=>?_⟩
       have:=u2 rest hr
       unfold aEl
       rw [if_pos (.inr (.inl hK2))]
       exact this
      rw [if_neg hK2,bE] at hx
      by_cases hK3:K=3
      ·
       rw [if_pos hK3] at hx
       obtain ⟨⟨s,r4⟩,e1,hx⟩:=aG hx
       obtain ⟨⟨t,r5⟩,e2,hx⟩:=aG hx
       obtain ⟨u1,u2⟩:=vX w3 e1
       obtain ⟨u3,u4,u5⟩:=aDi u1 e2
       simp only [Option.some.injEq] at hx
       refine .inr ⟨_,_,_,hx.symm,u3,fun rest hr=>?_⟩
       obtain ⟨_,e5⟩:=u4 (u5 rest hr)
       subst e5
       have:=u2 rest hr
       unfold aEl
       rw [if_neg (by simp only;omega),if_pos hK3]
       exact this
      rw [if_neg hK3,k45,Option.bind_some,bE] at hx
      by_cases hK4:K=4∨K=5
      ·
       rw [if_pos hK4] at hx
       obtain ⟨⟨v5,k5,r5⟩,e1,hy⟩:=aG hx
       cases m with
       | zero=>rw [eE] at e1;cases e1
       | succ p =>
        obtain ⟨u1,u2⟩:=aLX (ih p (by omega)) hK4 w3 e1
        simp only [Option.some.injEq] at hy
        refine .inl ⟨_,_,_,hy.symm,u1,fun rest hr=>?_⟩
        obtain ⟨z1,z2⟩:=u2 rest hr
        refine ⟨z1,?_⟩
        unfold aEl
        simp only [z1]
        rw [if_neg (by omega),if_neg (by omega)]
        unfold E2 at z2
        rcases hK4 with h4 | h5
        ·
         rw [if_pos h4] at z2 ⊢
         rw [List.append_assoc];exact z2
        ·
         rw [if_neg (by omega)] at z2
         rw [if_neg (by omega),if_pos h5,List.append_assoc];exact z2
      ·
       rw [if_neg hK4] at hx
       simp only [Option.some.injEq] at hx
       refine .inr ⟨_,_,_,hx.symm,w3,fun rest hr=>?_⟩
       unfold aEl
       rw [if_neg (by simp only;omega),if_neg (by simp only;omega),if_neg (by simp only;omega),if_neg (by simp only;omega)]
       exact hr
     rcases key with ⟨v5,k5,r5,rfl,u1,u2⟩ | ⟨r4,i,s,rfl,u1,u2⟩
     ·
      simp only [Fl.next,Option.some.injEq,Prod.mk.injEq] at h
      obtain ⟨rfl,rfl,rfl⟩:=h
      refine ⟨u1,fun rest hr=>?_⟩
      obtain ⟨z1,z2⟩:=u2 rest hr
      rw [aHo,z1,List.append_assoc]
      exact a2 _ z2
     ·
      simp only [Fl.next,Option.some.injEq,Prod.mk.injEq] at h
      obtain ⟨rfl,rfl,rfl⟩:=h
      refine ⟨u1,fun rest hr=>?_⟩
      rw [aHo,List.append_assoc]
      exact a2 _ (u2 rest hr)
theorem aG1 {r r':aD}{v:aC} (hv:uY r) (h:jZ r=some (v,r')):uY r'∧tS r r' (kA v):=by
 unfold jZ at h
 obtain ⟨x1,h1,h⟩:=aG h
 obtain ⟨e,h2,h1⟩:=aG h1
 rw [bE] at h1
 by_cases he:e=1
 ·
  rw [if_pos he] at h1
  cases h1
  simp only [Fl.next,Option.some.injEq,Prod.mk.injEq] at h
  obtain ⟨rfl,rfl⟩:=h
  exact ⟨hv,fun rest hr=>by rw [mD hr] at h2;cases h2;omega⟩
 ·
  rw [if_neg he] at h1
  cases h1
  simp only [Fl.next] at h
  obtain ⟨⟨v2,k2,r2⟩,h3,h⟩:=aG h
  obtain ⟨n,h3⟩:=pZ h3
  obtain ⟨w1,w2⟩:=aMw n _ _ _ _ _ _ hv h3
  obtain ⟨e2,h4,h⟩:=aG h
  rw [qJ] at h
  by_cases h0:e2=0
  ·
   rw [if_pos h0] at h
   simp only [Option.some.injEq,Prod.mk.injEq] at h
   obtain ⟨rfl,rfl⟩:=h
   exact ⟨w1,w2⟩
  ·
   rw [if_neg h0] at h
   simp only [Option.some.injEq,Prod.mk.injEq] at h
   obtain ⟨rfl,rfl⟩:=h
   exact ⟨w1,fun rest hr=>by rw [mD hr] at h4;cases h4;omega⟩
end Go.Proofs.YtnigjppddilpcaaGreatDoor
namespace Go.Proofs.YtnigjppddilpcaaGreatDoor
open Go Abs
set_option linter.unusedSimpArgs false
set_option linter.unusedVariables false
theorem aI5 {n:Int}{r0:aD}{i:Int}{r:aD}{l:List (List UInt8)}{st:bS (Int × aD × (List (List UInt8))) (aD × (List (List UInt8)))} (hv:uY r) (h:fB (n,r0) (i,r,l)=some st) :
  (st=.out (r,l)∧∀ rest,At r rest→¬i<n)∨(i<n∧∃ t r',st=.next (IntKind.i64.wrap (i+1),r',l++[t])∧(l.length+1)*16≤140737488355328∧uY r'∧tS r r' (jY t)):=by
 unfold fB at h
 simp only at h
 obtain ⟨x,hx,h⟩:=aG h
 rw [bE] at hx
 by_cases hi:i<n
 ·
  rw [if_pos hi] at hx
  obtain ⟨e,e1,hx⟩:=aG hx
  rw [bE] at hx
  by_cases he:e=0
  ·
   rw [if_pos he] at hx
   cases hx
   simp only [Fl.next] at h
   obtain ⟨⟨t,r'⟩,e2,h⟩:=aG h
   obtain ⟨l',e3,h⟩:=aG h
   obtain ⟨hb,rfl⟩:=vU e3
   simp only [Option.some.injEq] at h
   obtain ⟨w1,w2⟩:=vX hv e2
   exact .inr ⟨hi,t,r',h.symm,hb,w1,w2⟩
  ·
   rw [if_neg he] at hx
   cases hx
   simp only [Fl.next,Option.some.injEq] at h
   exact .inl ⟨h.symm,fun rest hr=>absurd (by rw [mD hr] at e1;cases e1;rfl) he⟩
 ·
  rw [if_neg hi] at hx
  cases hx
  simp only [Fl.next,Option.some.injEq] at h
  exact .inl ⟨h.symm,fun _ _=>hi⟩
theorem aNA {n:Int}{r0 r r':aD}{l:List (List UInt8)} (hv:uY r) (h:dL (fB (n,r0)) ((0:Int),r,([]:List (List UInt8)))=some (r',l)) :
  uY r'∧tS r r' (l.flatMap jY)∧∀ rest,At r' rest→0≤n→(l.length:Int)=n:=by
 refine aFw (fun s:Int × aD × List (List UInt8)=>∃ i:Nat,s.1=(i:Int)∧s.2.2.length=i∧(i=0∨(i:Int)≤n)∧uY s.2.1∧tS r s.2.1 (s.2.2.flatMap jY)) (fun x:aD × List (List UInt8)=>uY x.1∧tS r x.1 (x.2.flatMap jY)∧∀ rest,At x.1 rest→0≤n→(x.2.length:Int)=n) ?_ ?_ ⟨0,rfl,rfl,.inl rfl,hv,aDM r⟩ h
 ·
  rintro ⟨i0,q,m⟩ s' ⟨i,hi,hl,hn,w,tk⟩ hb
  simp only at hi hl hn w tk
  subst hi
  rcases aI5 w hb with ⟨e,_⟩ | ⟨hlt,t,q',e,hbd,w1,w2⟩
  ·
   cases e
  ·
   cases e
   refine ⟨i+1,by simp only;rw [w64 (by omega) (by omega)];omega,by simp only [List.length_append,List.length_cons,List.length_nil];omega,.inr (by omega),w1,?_⟩
   simp only [List.flatMap_append,List.flatMap_cons,List.flatMap_nil,List.append_nil]
   exact tk.trans w2
 ·
  rintro ⟨i0,q,m⟩ x ⟨i,hi,hl,hn,w,tk⟩ hb
  simp only at hi hl hn w tk
  subst hi
  rcases aI5 w hb with ⟨e,hend⟩ | ⟨hlt,t,q',e,hbd,w1,w2⟩
  ·
   cases e
   exact ⟨w,tk,fun rest hr h0=>by have:=hend rest hr;simp only;omega⟩
  ·
   cases e
theorem aJ8 {r r':aD}{o:bL} (hv:uY r) (h:fT r=some (o,r')):uY r'∧∀ rest,At r' rest→At r (aFG o++rest)∧iC o=some true:=by
 unfold fT at h
 obtain ⟨⟨q,r0⟩,h0,h⟩:=aG h
 obtain ⟨_,_,h⟩:=aG h
 obtain ⟨⟨n1,r1⟩,h1,h⟩:=aG h
 obtain ⟨⟨n2,r2⟩,h2,h⟩:=aG h
 obtain ⟨⟨n3,r3⟩,h3,h⟩:=aG h
 obtain ⟨⟨n4,r4⟩,h4,h⟩:=aG h
 obtain ⟨⟨n5,r5⟩,h5,h⟩:=aG h
 obtain ⟨⟨n6,r6⟩,h6,h⟩:=aG h
 obtain ⟨⟨n7,r7⟩,h7,h⟩:=aG h
 obtain ⟨⟨n8,r8⟩,h8,h⟩:=aG h
 obtain ⟨⟨n9,r9⟩,h9,h⟩:=aG h
 obtain ⟨r10,g1,h⟩:=aG h
 obtain ⟨⟨r11,fl⟩,g2,h⟩:=aG h
 obtain ⟨r12,g3,h⟩:=aG h
 obtain ⟨e,g4,h⟩:=aG h
 obtain ⟨v0,t0⟩:=vX hv h0
 obtain ⟨v1,t1⟩:=qI v0 h1
 obtain ⟨v2,t2⟩:=qI v1 h2
 obtain ⟨v3,t3⟩:=qI v2 h3
 obtain ⟨v4,t4⟩:=qI v3 h4
 obtain ⟨v5,t5⟩:=qI v4 h5
 obtain ⟨v6,t6⟩:=qI v5 h6
 obtain ⟨v7,t7⟩:=qI v6 h7
 obtain ⟨v8,t8⟩:=qI v7 h8
 obtain ⟨v9,t9⟩:=qI v8 h9
 obtain ⟨v10,t10⟩:=yZ (by decide) v9 g1
 obtain ⟨v11,t11,z11⟩:=aNA v10 g2
 obtain ⟨v12,t12⟩:=yZ (by decide) v11 g3
 rw [qJ] at h
 by_cases he:e=0
 ·
  rw [if_pos he] at h
  simp only [Option.some.injEq,Prod.mk.injEq] at h
  obtain ⟨rfl,rfl⟩:=h
  refine ⟨v12,fun rest hr=>?_⟩
  obtain ⟨rfl,hR⟩:=t12 rest hr
  have a10:=t11 rest hr
  obtain ⟨rfl,hin⟩:=t10 _ a10
  rw [mF] at hin
  have h0n:0≤n9:=by
   have:=Option.some.inj hin
   unfold inB at this
   simp only [Bool.and_eq_true,decide_eq_true_eq] at this
   exact this.1
  have hlen:=z11 rest hr h0n
  subst hlen
  have:=t0 _ (t1 _ (t2 _ (t3 _ (t4 _ (t5 _ (t6 _ (t7 _ (t8 _ (t9 _ a10)))))))))
  refine ⟨?_,hR⟩
  unfold aFG
  simp only [List.append_assoc]
  exact this
 ·
  rw [if_neg he] at h
  simp only [Option.some.injEq,Prod.mk.injEq] at h
  obtain ⟨rfl,rfl⟩:=h
  exact ⟨v12,fun rest hr=>by rw [mD hr] at g4;cases g4;omega⟩
end Go.Proofs.YtnigjppddilpcaaGreatDoor

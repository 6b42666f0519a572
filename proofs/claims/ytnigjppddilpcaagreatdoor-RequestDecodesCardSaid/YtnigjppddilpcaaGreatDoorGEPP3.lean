/- Plain laws: what the functions compute, with no program in sight. -/
import Derived.Test.YtnigjppddilpcaaGreatDoorGEPP2
import Derived.Test.YtnigjppddilpcaaGreatDoorGEPP1
import Derived.Test.YtnigjppddilpcaaGreatDoorGEF5
import Derived.Test.YtnigjppddilpcaaGreatDoorGEF12
import Derived.Test.YtnigjppddilpcaaGreatDoorGEF14
import Derived.Test.YtnigjppddilpcaaGreatDoorGEF17
import Derived.Test.YtnigjppddilpcaaGreatDoorGEPP0
import Derived.Test.YtnigjppddilpcaaGreatDoorGESh
import Derived.Test.YtnigjppddilpcaaGreatDoorGEF2
import Derived.Test.YtnigjppddilpcaaGreatDoorGEF3
import Derived.Test.YtnigjppddilpcaaGreatDoorGEF4
import Derived.Test.YtnigjppddilpcaaGreatDoorGEF6
import Derived.Test.YtnigjppddilpcaaGreatDoorGEF9
import Derived.Test.YtnigjppddilpcaaGreatDoorGEF8
import Derived.Test.YtnigjppddilpcaaGreatDoorGEF10
import Derived.Test.YtnigjppddilpcaaGreatDoorGEF0
import Derived.Test.YtnigjppddilpcaaGreatDoorGEF7
import Derived.Test.YtnigjppddilpcaaGreatDoorGEF1
import Derived.Test.YtnigjppddilpcaaGreatDoorGEF16
import Derived.Test.YtnigjppddilpcaaGreatDoorGEF18
namespace Go.Proofs.YtnigjppddilpcaaGreatDoor
open Go Abs
set_option linter.unusedSimpArgs false
set_option linter.unusedVariables false
theorem aBP {e:Int}{r:aX}{w:aV} (h:kJ e r w):∃ x e' r' w',jF r=some (x,r')∧nR w=some (x,w')∧kJ e' r' w'∧sQ x∧(e≠0→x=0∧e'=e)∧(e'=0→e=0):=by
 obtain ⟨x,e',r',w',h1,h2,h3,h4,h5,h6⟩:=aCp (-9223372036854775808) 9223372036854775807 h
 exact ⟨x,e',r',w',by unfold jF;rw [h1];rfl,by unfold nR;rw [h2];rfl,h3,h4,h5,h6⟩
theorem aGp {e:Int}{r:aX}{w:aV} (h:kJ e r w):∃ v e' r' w',qO r=some (v,r')∧tW w=some (v,w')∧kJ e' r' w'∧eA v∧(e≠0→e'=e):=by
 obtain ⟨v,k,v',k',e',r',w',h1,h2,h3,h4,h5,h6⟩:=aOq 33 1 0 r w e h (by omega) (by omega) (by omega)
 have h1:=aDv h1
 have h2:=aDp h2
 unfold qO tW
 rw [(oD h).1,h2]
 simp only [aA]
 rw [aCU k' h3]
 simp only [aA]
 by_cases he1:e=1
 ·
  have hne:e≠0:=by omega
  have hst:=h6 hne
  rw [hst] at h3
  simp only [he1,cL,dJ,aA,Fl.next]
  refine ⟨zV,e,r,w',rfl,?_,h.trans_w h3 hne,aHX,fun _=>he1⟩
  simp [hst,he1,zV]
 ·
  simp only [he1,dR,cC,aA,Fl.next]
  rw [h1]
  simp only [aA]
  rw [(oD h3).1]
  simp only [aA]
  by_cases he0:e'=0
  ·
   obtain ⟨rfl,rfl⟩:=h5 he0
   exact ⟨v,e',r',w',by simp [he0],by simp [he0],h3,h4,h6⟩
  ·
   exact ⟨zV,e',r',w',by simp [he0,zV],by simp [he0,zV],h3,aHX,h6⟩
theorem aHg {e:Int}{r:aX}{w:aV} (c:Bool) (h:kJ e r w):∃ r' w',(cond (cond (decide (e=(0:Int))) (!(if e=0 then c else false)) false) ((jS (3:Int) r).bind fun x=>some x) (some r))=some r'∧(cond (!c) ((kO (3:Int) w).bind fun x=>some x) (some w))=some w'∧kJ (eIf c e) r' w':=by
 obtain ⟨r',w',h3,h4,h5⟩:=aGo 3 h
 by_cases he:e=0
 ·
  cases c
  ·
   exact ⟨r',w',by simp [he,h3],by simp [h4],by simpa [eIf,he] using h5⟩
  ·
   exact ⟨r,w,by simp [he],by simp,by simpa [eIf,he] using h⟩
 ·
  have e1:eIf c e=e:=by unfold eIf;rw [bE he]
  rw [e1]
  cases c
  ·
   refine ⟨r,w',by simp [he],by simp [h4],?_⟩
   rw [bE he] at h5
   exact h.trans_w h5 he
  ·
   exact ⟨r,w,by simp [he],by simp,h⟩
def zP:dS:=⟨[],0,0,0,0,0,0,0,0,[]⟩
theorem aMD:jP zP:=by
 simp [jP,zP,sQ,okS,aAc]
theorem aNP {c:Bool}{e:Int} (h:e≠0):eIf c e=e:=by unfold eIf;rw [bE h]
theorem aKE {e:Int}{r:aX}{w:aV} (h:kJ e r w):∃ o e' r' w',oR r=some (o,r')∧qH w=some (o,w')∧kJ e' r' w'∧jP o∧(e≠0→e'=e):=by
 obtain ⟨q,e0,r0,w0,a0,b0,l0,k0,z0,y0⟩:=aCW 4096 h
 obtain ⟨n1,e1,r1,w1,a1,b1,l1,k1,z1,y1⟩:=aBP l0
 obtain ⟨n2,e2,r2,w2,a2,b2,l2,k2,z2,y2⟩:=aBP l1
 obtain ⟨n3,e3,r3,w3,a3,b3,l3,k3,z3,y3⟩:=aBP l2
 obtain ⟨n4,e4,r4,w4,a4,b4,l4,k4,z4,y4⟩:=aBP l3
 obtain ⟨n5,e5,r5,w5,a5,b5,l5,k5,z5,y5⟩:=aBP l4
 obtain ⟨n6,e6,r6,w6,a6,b6,l6,k6,z6,y6⟩:=aBP l5
 obtain ⟨n7,e7,r7,w7,a7,b7,l7,k7,z7,y7⟩:=aBP l6
 obtain ⟨n8,e8,r8,w8,a8,b8,l8,k8,z8,y8⟩:=aBP l7
 obtain ⟨n9,e9,r9,w9,a9,b9,l9,k9,z9,y9⟩:=aBP l8
 have hstay:e≠0→e9=e:=fun he=>by
  have h0:=(z0 he).2
  have h1:=(z1 (by omega)).2
  have h2:=(z2 (by omega)).2
  have h3:=(z3 (by omega)).2
  have h4:=(z4 (by omega)).2
  have h5:=(z5 (by omega)).2
  have h6:=(z6 (by omega)).2
  have h7:=(z7 (by omega)).2
  have h8:=(z8 (by omega)).2
  have h9:=(z9 (by omega)).2
  omega
 unfold oR qH
 rw [a0,b0]
 simp only [aA,vR]
 rw [a1,b1]
 simp only [aA]
 rw [a2,b2]
 simp only [aA]
 rw [a3,b3]
 simp only [aA]
 rw [a4,b4]
 simp only [aA]
 rw [a5,b5]
 simp only [aA]
 rw [a6,b6]
 simp only [aA]
 rw [a7,b7]
 simp only [aA]
 rw [a8,b8]
 simp only [aA]
 rw [a9,b9]
 simp only [aA]
 rw [(oD l9).1,aDR,zG]
 simp only [aA]
 have hg:∀ c:Bool,gd ((decide (e9=(0:Int)))==true) (some c)=some (if e9=0 then c else false):=fun c=>by by_cases h:e9=0 <;> simp [gd,h] <;> rfl
 rw [hg]
 simp only [aA]
 obtain ⟨r10,w10,a10,b10,l10⟩:=aHg (inB n9 0 64) l9
 rw [a10,b10]
 simp only [aA]
 obtain ⟨X,Y,m1,m2,fl,e11,hX,hY,l11,k11,hs11⟩:∃ X Y,fK (rJ (n9,r9)) ((0:Int),r10,([]:List (List UInt8)))=some X∧fK (qB (n9,w9)) ((0:Int),w10,([]:List (List UInt8)))=some Y ∧
   ∃ fl e',X.2=fl∧Y.2=fl∧kJ e' X.1 Y.1∧aAc 16 okS fl∧(eIf (inB n9 0 64) e9≠0→e'=eIf (inB n9 0 64) e9):=by
  let R:(Int × aX × List (List UInt8))→(Int × aV × List (List UInt8))→Prop:=fun s t=>∃ (i:Nat) (r:aX) (w:aV) (l:List (List UInt8)) (e:Int),s=((i:Int),r,l)∧t=((i:Int),w,l)∧kJ e r w∧l.length=i∧i≤64∧(∀ x∈l,x.length≤1000000000)∧(e=0→0≤n9∧n9≤64)∧(eIf (inB n9 0 64) e9≠0→e=eIf (inB n9 0 64) e9)
  have hok:∀ l:List (List UInt8),l.length≤64→(∀ x∈l,x.length≤1000000000)→aAc 16 okS l:=fun l h1 h2=>⟨by omega,by omega,fun x hx=>by have:=h2 x hx;simp only [okS];omega⟩
  refine aGs R (fun s=>65 - s.1.toNat) (fun (X:aX × List (List UInt8)) (Y:aV × List (List UInt8))=>∃ fl e',X.2=fl∧Y.2=fl∧kJ e' X.1 Y.1∧aAc 16 okS fl∧(eIf (inB n9 0 64) e9≠0→e'=eIf (inB n9 0 64) e9)) ?_ _ _ ⟨0,r10,w10,[],_,rfl,rfl,l10,rfl,by omega,by simp,fun h=>?_,fun _=>rfl⟩
  ·
   rintro s t ⟨i,r,w,l,e,rfl,rfl,hl,hlen,hi,hx,hn,hst⟩
   unfold rJ
   by_cases hgo:(i:Int)<n9∧e=0
   ·
    obtain ⟨x,e',r',w',g1,g2,g3,g4,g5,g6⟩:=aCW 4096 hl
    have hn':=hn hgo.2
    have hi1:IntKind.i64.wrap ((i:Int)+1)=((i+1:Nat):Int):=by rw [w64 (by omega) (by omega)];omega
    refine .inl ⟨((i+1:Nat),r',l++[x]),((i+1:Nat),w',l++[x]),?_,?_,⟨i+1,r',w',l++[x],e',rfl,rfl,g3,by simp [hlen],by omega,?_,fun _=>hn',fun h=>absurd hgo.2 (by rw [hst h];exact h)⟩,by simp;omega⟩
    ·
     simp only
     rw [dW,bH hgo.1,(oD hl).1]
     simp only [aA,hgo.2,cL,dJ,Fl.next]
     rw [g1,aA,wW (by simp;omega),aA,hi1]
    ·
     unfold qB
     simp only
     rw [dW,bH hgo.1,(oD hl).2]
     simp only [aA,hgo.2,cL,dJ,Fl.next]
     rw [g2,aA,wW (by simp;omega),aA,hi1]
    ·
     intro y hy
     rcases fH.1 hy with hy | hy
     ·
      exact hx y hy
     ·
      rw [kQ.1 hy];exact g4
   ·
    refine .inr ⟨(r,l),(w,l),?_,pY ?_,l,e,rfl,rfl,hl,hok l (by omega) hx,hst⟩
    ·
     simp only
     by_cases h1:(i:Int)<n9
     ·
      have h2:¬e=0:=fun h=>hgo ⟨h1,h⟩
      rw [dW,bH h1,(oD hl).1]
      simp [h2,Fl.next]
     ·
      rw [dW,bE h1];simp [Fl.next]
    ·
     unfold qB
     simp only
     by_cases h1:(i:Int)<n9
     ·
      have h2:¬e=0:=fun h=>hgo ⟨h1,h⟩
      rw [dW,bH h1,(oD hl).2]
      simp [h2,Fl.next]
     ·
      rw [dW,bE h1];simp [Fl.next]
  ·
   have:=(aQD.1 h).2
   unfold inB at this
   simpa using this
 rw [m1,m2]
 obtain ⟨rX,lX⟩:=X
 obtain ⟨wY,lY⟩:=Y
 simp only at hX hY l11
 subst hX hY
 have hokP:jP ⟨q,n1,n2,n3,n4,n5,n6,n7,n8,lY⟩:=⟨by simp only [okS];omega,k1,k2,k3,k4,k5,k6,k7,k8,k11⟩
 simp only [aA]
 rw [(oD l11).1,aEy hokP,aCZ hokP]
 simp only [aA]
 have hg2:∀ c:Bool,gd ((decide (e11=(0:Int)))==true) (some c)=some (if e11=0 then c else false):=fun c=>by by_cases h:e11=0 <;> simp [gd,h] <;> rfl
 rw [hg2]
 simp only [aA]
 obtain ⟨r12,w12,a12,b12,l12⟩:=aHg (aBS ⟨q,n1,n2,n3,n4,n5,n6,n7,n8,lY⟩) l11
 rw [a12,b12]
 simp only [aA]
 rw [(oD l12).1,(oD l12).2]
 have hst2:e≠0→eIf (aBS ⟨q,n1,n2,n3,n4,n5,n6,n7,n8,lY⟩) e11=e:=fun he=>by
  have h9:=hstay he
  have h10:eIf (inB n9 0 64) e9=e9:=aNP (by omega)
  rw [h10] at hs11
  have h11:=hs11 (by omega)
  rw [aNP (by omega),h11,h9]
 by_cases he0:eIf (aBS ⟨q,n1,n2,n3,n4,n5,n6,n7,n8,lY⟩) e11=0
 ·
  exact ⟨_,_,r12,w12,by simp [he0],by simp [he0],l12,hokP,hst2⟩
 ·
  exact ⟨zP,_,r12,w12,by simp [he0,zP],by simp [he0,zP],l12,aMD,hst2⟩
def zC:bY:=⟨0,0,[],[],0,zV,zP⟩
theorem aT5:lC zC:=⟨by simp [zC,sQ],by simp [zC,sQ],by simp [zC,okS],by simp [zC,okS],by simp [zC,sQ],aHX,aMD⟩
theorem aNX {e:Int}{r:aX}{w:aV} (h:kJ e r w):∃ c e' r' w',xM r=some (c,r')∧aAG w=some (c,w')∧kJ e' r' w'∧lC c∧(e≠0→e'=e):=by
 obtain ⟨n0,e0,r0,w0,a0,b0,l0,k0,z0,y0⟩:=aBP h
 obtain ⟨n1,e1,r1,w1,a1,b1,l1,k1,z1,y1⟩:=aBP l0
 obtain ⟨n2,e2,r2,w2,a2,b2,l2,k2,z2,y2⟩:=aCW 4096 l1
 obtain ⟨n3,e3,r3,w3,a3,b3,l3,k3,z3,y3⟩:=aCW 4096 l2
 obtain ⟨n4,e4,r4,w4,a4,b4,l4,k4,z4,y4⟩:=aBP l3
 obtain ⟨n5,e5,r5,w5,a5,b5,l5,k5,z5⟩:=aGp l4
 obtain ⟨n6,e6,r6,w6,a6,b6,l6,k6,z6⟩:=aKE l5
 have hstay:e≠0→e6=e:=fun he=>by
  have h0:=(z0 he).2
  have h1:=(z1 (by omega)).2
  have h2:=(z2 (by omega)).2
  have h3:=(z3 (by omega)).2
  have h4:=(z4 (by omega)).2
  have h5:=z5 (by omega)
  have h6:=z6 (by omega)
  omega
 have hokC:lC ⟨n0,n1,n2,n3,n4,n5,n6⟩:=⟨k0,k1,by simp only [okS];omega,by simp only [okS];omega,k4,k5,k6⟩
 unfold xM aAG
 rw [a0,b0]
 simp only [aA]
 rw [a1,b1]
 simp only [aA]
 rw [a2,b2]
 simp only [aA]
 rw [a3,b3]
 simp only [aA]
 rw [a4,b4]
 simp only [aA]
 rw [a5,b5]
 simp only [aA]
 rw [a6,b6]
 simp only [aA]
 rw [(oD l6).1,aA4 hokC,aDa hokC]
 simp only [aA]
 have hg2:∀ c:Bool,gd ((decide (e6=(0:Int)))==true) (some c)=some (if e6=0 then c else false):=fun c=>by by_cases h:e6=0 <;> simp [gd,h] <;> rfl
 rw [hg2]
 simp only [aA]
 obtain ⟨r12,w12,a12,b12,l12⟩:=aHg (pC ⟨n0,n1,n2,n3,n4,n5,n6⟩) l6
 rw [a12,b12]
 simp only [aA]
 rw [(oD l12).1,(oD l12).2]
 have hst2:e≠0→eIf (pC ⟨n0,n1,n2,n3,n4,n5,n6⟩) e6=e:=fun he=>by
  have h9:=hstay he
  rw [aNP (by omega),h9]
 by_cases he0:eIf (pC ⟨n0,n1,n2,n3,n4,n5,n6⟩) e6=0
 ·
  exact ⟨_,_,r12,w12,by simp [he0],by simp [he0],l12,hokC,hst2⟩
 ·
  exact ⟨zC,_,r12,w12,by simp [he0,zC,zP,zV],by simp [he0,zC,zP,zV],l12,aT5,hst2⟩
def aHd {α:Type} (p:α→Bool):List α→Nat→Option (Nat × α)
 | [],_=>none
 | x :: l,k=>if p x then some (k,x) else aHd p l (k+1)
def aK8 {α τ:Type} (d:Nat→α→τ):Option (Nat × α)→Fl τ Unit
 | some (i,x)=>.done (d i x)
 | none=>.go ()
theorem aI8 {α τ:Type}{l:List α}{p:α→Bool}{d:Nat→α→τ}{body:Int→Option (dU Int (Fl τ Unit))} (h:∀ (i:Nat) (hi:i<l.length),body (i:Int)=some (if p l[i] then .out (.done (d i l[i])) else .next ((i+1:Nat):Int)))
  (hout:body (l.length:Int)=some (.out (.go ()))):∀ (suf pre:List α),l=pre++suf→fK body (pre.length:Int)=some (aK8 d (aHd p suf pre.length)):=by
 intro suf
 induction suf with
 | nil =>
  intro pre e
  rw [List.append_nil] at e
  rw [aDm,← e,hout];rfl
 | cons x suf ih =>
  intro pre e
  have hi:pre.length<l.length:=by rw [e];simp
  have hx:l[pre.length]=x:=by simp [e]
  rw [aDm,h _ hi,hx]
  cases hp:p x
  ·
   have:=ih (pre++[x]) (by simp [e])
   rw [jC,List.length_singleton] at this
   simp only [aHd,hp,kE,eU,aA]
   exact this
  ·
   simp only [aHd,hp,dP,aA,aK8]
theorem aN0 {α τ:Type}{l:List α} (p:α→Bool) (d:Nat→α→τ) {body:Int→Option (dU Int (Fl τ Unit))} (h:∀ (i:Nat) (hi:i<l.length),body (i:Int)=some (if p l[i] then .out (.done (d i l[i])) else .next ((i+1:Nat):Int)))
 (hout:body (l.length:Int)=some (.out (.go ()))):fK body (0:Int)=some (aK8 d (aHd p l 0)):=aI8 h hout l [] rfl
theorem aHI {n l h:Int}:mC n l h=some (inB n l h):=by unfold mC inB;rw [nP];by_cases h1:l≤n <;> simp [h1]
theorem aFx {s:List UInt8} (hs:s.length≤9223372036854775807):oS s=some (nA s):=(show oS s=uI s from rfl).trans (aIY hs)
theorem aNR {v:aQ} (hv:eA v):aBz v=some (aCn v):=by
 obtain ⟨k0,k1,k2,k3,k4⟩:=(hU v).1 hv
 unfold aBz
 simp only [aBa]
 by_cases h2:v.Items.length=2
 ·
  obtain ⟨a,b,hab⟩:=aMu h2
  obtain ⟨_,_,_,hb,_⟩:=(hU b).1 (k3.2.2 b (by rw [hab];simp))
  have h0:nG v.Items (1:Int)=some b:=by rw [hab];rfl
  have hi2:aCn v=(decide (v.Kind=4)&&decide (b.Kind=4)&&b.Items.all pZ):=by unfold aCn;rw [hab]
  have hC:fK (xP b) (0:Int)=some (if b.Items.all pZ then .go () else .done false):=by
   rw [oT b.Items.length (fun i=>pZ (b.Items.getD i default)) false (fun i hi=>?_) ?_,sP b.Items pZ]
   ·
    unfold xP
    rw [dW,bE (by omega)]
   ·
    unfold xP
    rw [dW,bH (by omega),kM hi,aA,vN hi hb.1]
    simp only [cI,aT hi,eT,aBa,wR]
    generalize b.Items[i]=x
    by_cases h2:x.Items.length=2
    ·
     obtain ⟨c,d,hcd⟩:=aMu h2
     have hp:pZ x=(decide (x.Kind=4)&&decide (c.Kind=3)&&oY c.Text):=by unfold pZ;rw [hcd]
     have h0:nG x.Items (0:Int)=some c:=by rw [hcd];rfl
     rw [h0,hp,h2]
     by_cases h1:x.Kind=4 <;> by_cases h3:c.Kind=3
     ·
      simp only [h1,h3,cL,nH,dA,cC,eQ,gd,dP,aA,dZ]
      cases oY c.Text <;> rfl
     ·
      simp [h1,h3,gd]
     ·
      simp [h1,h3,gd]
     ·
      simp [h1,h3,gd]
    ·
     have:pZ x=false:=aFe h2
     simp [this,h2,gd]
  rw [h0,h2,hi2]
  by_cases h1:v.Kind=4 <;> by_cases h3:b.Kind=4
  ·
   simp only [h1,h3,cL,nH,dA,cC,eQ,gd,dP,aA,dZ,hC]
   cases b.Items.all pZ <;> rfl
  ·
   simp [h1,h3,gd]
  ·
   simp [h1,h3,gd]
  ·
   simp [h1,h3,gd]
 ·
  have:aCn v=false:=aGm h2
  simp [this,h2,gd]
def yV (k:Int):Int:=if k=7 then 1 else if k=12 then 2 else if k=14 then 3 else if k=16 then 4 else if k=19 then 5 else if k=23 then 6 else if k=18 then 7 else if k=27 then 8 else if k=28 then 9 else if k=29 then 10 else if k=30 then 11 else if k=31 then 12 else if k=32 then 13 else if k=35 then 14 else 0
theorem aQP {α:Type}{p:Prop} [Decidable p] {a b:α}:(if p then some a else some b)=some (if p then a else b):=by split <;> rfl
theorem aK4 (k:Int):wJ k=some (yV k):=by
 unfold wJ yV
 simp only [dW,aQP]
theorem or3 {a b c:Bool}:(cond a (some a) (cond b (some b) (some c)))=some (a||b||c):=by cases a <;> cases b <;> rfl
theorem or2 {a b:Bool}:(cond a (some a) (some b))=some (a||b):=by cases a <;> rfl
theorem aFb {α:Type}{c:Bool}{a b:α}:cond c (some a) (some b)=some (cond c a b):=by cases c <;> rfl
def aCM (k:Int):kX :=
 cond (decide (k=1)) ⟨false,false,true,false,true,true,true⟩ (cond (decide (k=2)) ⟨false,false,true,false,false,false,false⟩ (cond (decide (k=3)||decide (k=4)||decide (k=6)) ⟨false,true,false,false,false,false,false⟩
 (cond (decide (k=5)) ⟨false,true,false,true,false,false,false⟩ (cond (decide (k=8)) ⟨true,true,true,false,false,false,false⟩ (cond (decide (k=9)||decide (k=13)||decide (k=21)) ⟨true,true,false,false,false,false,true⟩
 (cond (decide (k=10)||decide (k=22)) ⟨true,true,false,false,true,false,true⟩ (cond (decide (k=11)) ⟨true,true,false,true,false,false,false⟩ (cond (decide (k=15)||decide (k=24)) ⟨true,true,false,false,false,false,false⟩
 (cond (decide (k=17)) ⟨false,false,false,false,true,true,true⟩ (cond (decide (k=20)) ⟨true,true,false,false,false,true,false⟩ (cond (decide (k=25)) ⟨true,true,false,false,true,false,false⟩
 (cond (decide (k=26)) ⟨false,false,false,false,false,true,false⟩ (cond (decide (k=33)) ⟨false,false,false,false,true,false,false⟩ ⟨false,false,false,false,false,false,false⟩)))))))))))))
theorem aSL (k:Int):aCl k=some (aCM k):=by
 unfold aCl aCM
 simp only [or3,or2,aA]
 simp only [aFb,Bool.or_assoc]
def aDE (u:kX) (e:dH):Bool :=
 (u.seq_||decide (e.Seq=0))&&(u.ref_||decide (e.Ref=0))&&(u.n_||decide (e.N=0))&&(u.code_||decide (e.Code=0))&&(u.name_||decide (e.Name=[]))&&(u.key_||decide (e.Key=[]))&&(u.data_||sN e.Data tL)&&aBE e.Opts yJ
theorem aQE {u:kX}{e:dH} (h:mD e):vD u e=some (aDE u e):=by
 have hd:eA e.Data:=h.2.2.2.2.2.2.2.2.2.1
 have ho:jP e.Opts:=h.2.2.2.2.2.2.2.2.2.2
 unfold vD aDE
 rw [show (aQ.mk 0 0 [] [] [])=tL from rfl,show (dS.mk [] 0 0 0 0 0 0 0 0 [])=yJ from rfl,aDd hd,aC5 ho]
 simp only [Bool.cond_true_left,Bool.cond_false_right]
 generalize ((u.seq_||decide (e.Seq=0))&&(u.ref_||decide (e.Ref=0))&&(u.n_||decide (e.N=0))&&(u.code_||decide (e.Code=0))&&(u.name_||decide (e.Name=[]))&&(u.key_||decide (e.Key=[])))=b
 cases b
 ·
  simp [gd]
 ·
  cases u.data_
  ·
   cases sN e.Data tL <;> simp [gd]
  ·
   simp [gd]
noncomputable def aPs (e:dH) (k:Int):Bool:=decide (e.Code=0)&&(if k=2∨k=4 then inB e.Ref 1 2000 else decide (e.Ref=0))&&pC ⟨k,e.Seq,e.Name,e.Key,e.N,e.Data,e.Opts⟩
theorem aSQ {e:dH} (h:mD e) {k:Int} (hk:sQ k):lC ⟨k,e.Seq,e.Name,e.Key,e.N,e.Data,e.Opts⟩:=by
 obtain ⟨h1,h2,h3,h4,h5,h6,h7,h8,h9,h10,h11⟩:=h
 exact ⟨hk,h4,h8,h9,h6,h10,h11⟩
theorem aK5 {e:dH} (h:mD e) {k:Int} (hk:sQ k):wK e k=some (aPs e k):=by
 unfold wK aPs
 rw [aA4 (aSQ h hk),aHI]
 generalize pC _=c
 generalize inB e.Ref 1 2000=r
 by_cases hc:e.Code=0 <;> by_cases h2:k=2 <;> by_cases h4:k=4 <;> by_cases hr:e.Ref=0 <;> simp [hc,h2,h4,hr,gd] <;> cases r <;> simp
def aHY (e:dH):Bool :=
 cond (decide (e.Kind=1)) (oY e.Name&&nA e.Key&&inB e.N 0 4294967295&&aCn e.Data) (cond (decide (e.Kind=2)) (decide (1≤e.N)) (cond (decide (e.Kind=5)) (inB e.Code 1 30) (cond (decide (e.Kind=8)) (inB e.N 1 1000) (cond (decide (e.Kind=11)) (inB e.Code 1 4)
 (cond (decide (e.Kind=10)||decide (e.Kind=22)||decide (e.Kind=25)) (decide ((e.Name.length:Int)≤4096)) (cond (decide (e.Kind=33)) (decide ((e.Name.length:Int)≤64)) (cond (decide (e.Kind=17)) (oY e.Name&&nA e.Key) (cond (decide (e.Kind=26)) (nA e.Key) (cond (decide (e.Kind=20)) (xE e.Key).2 true)))))))))
theorem aTl {a b:Bool}:((gd (a==true) (some b)).bind fun (x:Bool)=>some (cond a x false))=some (a&&b):=by cases a <;> rfl
theorem aJ0 {e:dH} (h:mD e):vC e=some (aHY e):=by
 have hd:eA e.Data:=h.2.2.2.2.2.2.2.2.2.1
 have hk:okS e.Key:=h.2.2.2.2.2.2.2.2.1
 unfold okS at hk
 unfold vC aHY
 simp only [wR,aFx (show e.Key.length≤9223372036854775807 by omega),aHI,aNR hd,aEF (show e.Key.length≤140737488355328 by omega),or3,aA]
 generalize oY e.Name=a
 generalize nA e.Key=b
 generalize inB e.N 0 4294967295=c
 generalize aCn e.Data=d
 have:((gd (a==true) (some b)).bind fun x4=>(gd ((cond a x4 false)==true) (some c)).bind fun x6=>(gd ((cond (cond a x4 false) x6 false)==true) (some d)).bind fun x8=>some (cond (cond (cond a x4 false) x6 false) x8 false))=some (a&&b&&c&&d):=by
  cases a <;> cases b <;> cases c <;> rfl
 rw [this]
 simp only [aTl]
 simp only [aFb,Bool.or_assoc]
noncomputable def wX (e:dH):Bool :=
 inB e.Kind 1 35&&inB e.ID 0 2000&&inB e.Time 0 1099511627776&&nU e.Data&&(if yV e.Kind=0 then aDE (aCM e.Kind) e&&(!(aCM e.Kind).seq_||inB e.Seq 1 2000)&&(!(aCM e.Kind).ref_||inB e.Ref 1 2000)&&aHY e else aPs e (yV e.Kind))
theorem aKH (k:Int):sQ (yV k):=by
 unfold yV sQ
 repeat' split
 all_goals omega
theorem aCk {e:dH} (h:mD e):aAh e=some (wX e):=by
 have hd:eA e.Data:=h.2.2.2.2.2.2.2.2.2.1
 unfold aAh wX
 simp only [aHI,aAT hd,aK4,aSL,aQE h,aK5 h (aKH _),aJ0 h,aA]
 cases inB e.Kind 1 35
 ·
  simp [gd]
 cases inB e.ID 0 2000
 ·
  simp [gd]
 cases inB e.Time 0 1099511627776
 ·
  simp [gd]
 cases nU e.Data
 ·
  simp [gd]
 simp only [dA,cC,eQ,gd,dP,aA,dZ,aB2]
 split
 ·
  rename_i h0
  generalize aCM e.Kind=u
  cases aDE u e
  ·
   simp
  ·
   cases u.seq_ <;> cases u.ref_ <;> cases inB e.Seq 1 2000 <;> cases inB e.Ref 1 2000 <;> simp
 ·
  simp
def wf {α:Type} (f:Int→α→Int):List α→Int→Int
 | [],a=>a
 | x :: l,a=>if 0≤a then wf f l (f a x) else a
set_option maxRecDepth 20000
theorem aMm (k:Int):0≤yV k∧yV k≤14:=by
 unfold yV
 repeat' split
 all_goals omega
def aNL:List Int:=[7,12,14,16,19,23,18,27,28,29,30,31,32,35]
theorem aFB (k:Int):wT k=some (yV k):=by
 unfold wT
 rw [show aAI=some aNL from rfl,aA]
 rw [aN0 (l:=aNL) (fun x=>decide (x=k)) (fun i _=>(i:Int)+1) (fun i hi=>?_) ?_,aA]
 ·
  unfold yV
  by_cases h7:k=7
  ·
   subst h7;rfl
  by_cases h12:k=12
  ·
   subst h12;rfl
  by_cases h14:k=14
  ·
   subst h14;rfl
  by_cases h16:k=16
  ·
   subst h16;rfl
  by_cases h19:k=19
  ·
   subst h19;rfl
  by_cases h23:k=23
  ·
   subst h23;rfl
  by_cases h18:k=18
  ·
   subst h18;rfl
  by_cases h27:k=27
  ·
   subst h27;rfl
  by_cases h28:k=28
  ·
   subst h28;rfl
  by_cases h29:k=29
  ·
   subst h29;rfl
  by_cases h30:k=30
  ·
   subst h30;rfl
  by_cases h31:k=31
  ·
   subst h31;rfl
  by_cases h32:k=32
  ·
   subst h32;rfl
  by_cases h35:k=35
  ·
   subst h35;rfl
  simp [aNL,aHd,aK8,Fl.next,h7,h12,h14,h16,h19,h23,h18,h27,h28,h29,h30,h31,h32,h35,lI h7,lI h12,lI h14,lI h16,lI h19,lI h23,lI h18,lI h27,lI h28,lI h29,lI h30,lI h31,lI h32,lI h35]
 ·
  unfold yQ
  rw [dW,bE (by omega)]
 ·
  have h:i<14:=hi
  unfold yQ
  rw [dW,bH (by omega),kM hi,aA,vN hi (by show (14:Nat)≤_;omega)]
  simp only [dT,dW]
  split <;> rfl
theorem aIb (k:Int):wM k=some (!decide (yV k=0)):=by
 unfold wM
 rw [aFB,aA]
 have:=(aMm k).1
 by_cases h:yV k=0
 ·
  rw [h];rfl
 ·
  have h2:0<yV k:=by omega
  simp [h,h2]
def aOD (a b:dH):Bool:=decide (a.ID=b.ID)&&decide (a.Kind=b.Kind)&&decide (a.Time=b.Time)&&decide (a.Seq=b.Seq)&&decide (a.Ref=b.Ref)&&decide (a.N=b.N)&&decide (a.Code=b.Code)&&decide (a.Name=b.Name)&&decide (a.Key=b.Key)&&sN a.Data b.Data&&aBE a.Opts b.Opts
theorem aPR {a b c:Bool}:((gd (a==true) (some b)).bind fun (x1:Bool)=>(gd ((cond a x1 false)==true) (some c)).bind fun (x3:Bool)=>some (cond (cond a x1 false) x3 false))=some (a&&b&&c):=by cases a <;> cases b <;> rfl
theorem aLq {a b:dH} (h:mD a):aCz a b=some (aOD a b):=by
 have hd:eA a.Data:=h.2.2.2.2.2.2.2.2.2.1
 have ho:jP a.Opts:=h.2.2.2.2.2.2.2.2.2.2
 unfold aCz aOD
 rw [aCD hd,vH ho,aPR]
 simp only [Bool.cond_false_right]
theorem aNQ (a:dH):aOD a a=true:=by unfold aOD;simp [aBi,aDP]
theorem aJl {n l h:Int}:vF n l h=some (inB n l h):=by unfold vF inB;rw [nP];by_cases h1:l≤n <;> simp [h1]
theorem aJ4 {s:List UInt8} (hs:s.length≤9223372036854775807):xV s=some (nA s):=(show xV s=oS s from rfl).trans (aFx hs)
theorem aJ5 {v:aQ} (hv:eA v):aBH v=some (nU v&&aCn v):=by
 obtain ⟨k0,k1,k2,k3,k4⟩:=(hU v).1 hv
 unfold aBH
 rw [zL hv,aA]
 cases nU v
 ·
  simp [gd]
 simp only [dA,cC,dZ]
 rw [aBa]
 by_cases h2:v.Items.length=2
 ·
  obtain ⟨a,b,hab⟩:=aMu h2
  obtain ⟨_,_,_,hb,_⟩:=(hU b).1 (k3.2.2 b (by rw [hab];simp))
  have h0:nG v.Items (1:Int)=some b:=by rw [hab];rfl
  have hi2:aCn v=(decide (v.Kind=4)&&decide (b.Kind=4)&&b.Items.all pZ):=by unfold aCn;rw [hab]
  have hC:fK (xW b) (0:Int)=some (if b.Items.all pZ then .go () else .done false):=by
   rw [oT b.Items.length (fun i=>pZ (b.Items.getD i default)) false (fun i hi=>?_) ?_,sP b.Items pZ]
   ·
    unfold xW
    rw [dW,bE (by omega)]
   ·
    unfold xW
    rw [dW,bH (by omega),kM hi,vN hi hb.1]
    simp only [cI,aT hi,eT,wS,aA]
    generalize b.Items[i]=x
    by_cases h1:x.Kind=4
    ·
     by_cases h2:x.Items.length=2
     ·
      obtain ⟨c,d,hcd⟩:=aMu h2
      have hp:pZ x=(decide (x.Kind=4)&&decide (c.Kind=3)&&oY c.Text):=by unfold pZ;rw [hcd]
      have h0:nG x.Items (0:Int)=some c:=by rw [hcd];rfl
      rw [hp,h1]
      by_cases h3:c.Kind=3
      ·
       simp [h2,h0,h3,gd]
       cases oY c.Text <;> rfl
      ·
       simp [h2,h0,h3,gd]
     ·
      have:pZ x=false:=aFe h2
      have h2':¬((x.Items.length:Int)=2):=by omega
      simp [this,h1,h2',gd]
    ·
     have hp:pZ x=false:=by unfold pZ;split <;> simp [h1]
     simp [hp,h1,gd]
  rw [h0,h2,hi2]
  by_cases h1:v.Kind=4 <;> by_cases h3:b.Kind=4
  ·
   simp only [h1,h3,cL,nH,dA,cC,eQ,gd,dP,aA,dZ,hC]
   cases b.Items.all pZ <;> rfl
  ·
   simp [h1,h3,gd]
  ·
   simp [h1,h3,gd]
  ·
   simp [h1,h3,gd]
 ·
  have:aCn v=false:=aGm h2
  simp [this,h2,gd]
def aDu (k:Int):hD :=
 cond (decide (k=1)) ⟨false,false,true,false,true,true,true,false⟩ (cond (decide (k=2)) ⟨false,false,true,false,false,false,false,false⟩ (cond (decide (k=3)||decide (k=4)||decide (k=6)) ⟨false,true,false,false,false,false,false,false⟩
 (cond (decide (k=5)) ⟨false,true,false,true,false,false,false,false⟩ (cond (decide (k=8)) ⟨true,true,true,false,false,false,false,false⟩ (cond (decide (k=9)||decide (k=13)||decide (k=21)) ⟨true,true,false,false,false,false,true,false⟩
 (cond (decide (k=10)||decide (k=22)) ⟨true,true,false,false,true,false,true,false⟩ (cond (decide (k=11)) ⟨true,true,false,true,false,false,false,false⟩ (cond (decide (k=15)||decide (k=24)||decide (k=12)||decide (k=16)) ⟨true,true,false,false,false,false,false,false⟩
 (cond (decide (k=17)) ⟨false,false,false,false,true,true,true,false⟩ (cond (decide (k=20)) ⟨true,true,false,false,false,true,false,false⟩ (cond (decide (k=25)) ⟨true,true,false,false,true,false,false,false⟩
 (cond (decide (k=26)) ⟨false,false,false,false,false,true,false,false⟩ (cond (decide (k=33)) ⟨false,false,false,false,true,false,false,false⟩ (cond (decide (k=7)) ⟨true,false,false,false,true,false,true,true⟩ (cond (decide (k=14)) ⟨true,false,true,false,false,false,false,false⟩
 (cond (decide (k=19)) ⟨true,false,true,false,true,true,true,false⟩ (cond (decide (k=23)) ⟨true,false,false,false,true,true,true,false⟩ (cond (decide (k=18)) ⟨false,false,true,false,true,false,true,false⟩ (cond (decide (k=27)) ⟨false,false,false,false,true,true,true,false⟩
 (cond (decide (k=28)) ⟨false,false,true,false,false,true,true,false⟩ (cond (decide (k=31)) ⟨false,false,false,false,true,false,true,false⟩ (cond (decide (k=29)||decide (k=30)||decide (k=32)||decide (k=35)) ⟨false,false,false,false,false,false,true,false⟩ ⟨false,false,false,false,false,false,false,false⟩))))))))))))))))))))))
theorem aP5 (k:Int):aCB k=some (aDu k):=by
 unfold aCB aDu
 simp only [or3,or2,aA]
 simp only [aFb,Bool.or_assoc]
noncomputable def aDj (u:hD) (e:dH):Bool :=
 (if u.seq_ then inB e.Seq 1 2000 else decide (e.Seq=0))&&(if u.ref_ then inB e.Ref 1 2000 else decide (e.Ref=0))&&(u.n_||decide (e.N=0))&&(u.code_||decide (e.Code=0))&&(u.name_||decide (e.Name=[]))&&(u.key_||decide (e.Key=[]))&&nU e.Data&&(u.data_||decide (e.Data.Kind=0))&&(u.opts_||aBE e.Opts yJ)
set_option maxHeartbeats 2000000 in
theorem aPn {e:dH} (h:mD e):aCA e=some (aDj (aDu e.Kind) e):=by
 have hd:eA e.Data:=h.2.2.2.2.2.2.2.2.2.1
 have ho:jP e.Opts:=h.2.2.2.2.2.2.2.2.2.2
 unfold aCA aDj
 rw [aP5,aA,show (dS.mk [] 0 0 0 0 0 0 0 0 [])=yJ from rfl,vH ho,zL hd]
 simp only [aJl]
 generalize aDu e.Kind=u
 obtain ⟨u1,u2,u3,u4,u5,u6,u7,u8⟩:=u
 simp only
 generalize inB e.Seq 1 2000=a1
 generalize inB e.Ref 1 2000=a2
 generalize decide (e.Seq=0)=b1
 generalize decide (e.Ref=0)=b2
 generalize decide (e.N=0)=b3
 generalize decide (e.Code=0)=b4
 generalize decide (e.Name=[])=b5
 generalize decide (e.Key=[])=b6
 generalize nU e.Data=b7
 generalize decide (e.Data.Kind=0)=b8
 generalize aBE e.Opts yJ=b9
 have h1:∃ r,(if u1=true then a1 else b1)=r:=⟨_,rfl⟩
 cases u1
 ·
  cases u2
  ·
   cases b1 <;> cases b2 <;> simp [gd] <;> cases u3 <;> cases b3 <;> cases u4 <;> cases b4 <;> simp <;> cases u5 <;> cases b5 <;> cases u6 <;> cases b6 <;> simp <;> cases b7 <;> cases u7 <;> cases b8 <;> cases u8 <;> simp
  ·
   cases b1 <;> cases a2 <;> simp [gd] <;> cases u3 <;> cases b3 <;> cases u4 <;> cases b4 <;> simp <;> cases u5 <;> cases b5 <;> cases u6 <;> cases b6 <;> simp <;> cases b7 <;> cases u7 <;> cases b8 <;> cases u8 <;> simp
 ·
  cases u2
  ·
   cases a1 <;> cases b2 <;> simp [gd] <;> cases u3 <;> cases b3 <;> cases u4 <;> cases b4 <;> simp <;> cases u5 <;> cases b5 <;> cases u6 <;> cases b6 <;> simp <;> cases b7 <;> cases u7 <;> cases b8 <;> cases u8 <;> simp
  ·
   cases a1 <;> cases a2 <;> simp [gd] <;> cases u3 <;> cases b3 <;> cases u4 <;> cases b4 <;> simp <;> cases u5 <;> cases b5 <;> cases u6 <;> cases b6 <;> simp <;> cases b7 <;> cases u7 <;> cases b8 <;> cases u8 <;> simp
noncomputable def aJc (e:dH):Bool :=
 cond (decide (e.Kind=1)) (oY e.Name&&nA e.Key&&(nU e.Data&&aCn e.Data)&&inB e.N 0 4294967295) (cond (decide (e.Kind=2)) (decide (1≤e.N)) (cond (decide (e.Kind=5)) (inB e.Code 1 30) (cond (decide (e.Kind=8)) (inB e.N 1 1000) (cond (decide (e.Kind=11)) (inB e.Code 1 4)
 (cond (decide (e.Kind=10)||decide (e.Kind=22)||decide (e.Kind=25)) (decide ((e.Name.length:Int)≤4096)) (cond (decide (e.Kind=17)) (oY e.Name&&nA e.Key) (cond (decide (e.Kind=20)) (xE e.Key).2 (cond (decide (e.Kind=26)) (nA e.Key) (cond (decide (e.Kind=33)) (decide ((e.Name.length:Int)≤64)) true)))))))))
noncomputable def aJr (e:dH):Bool :=
 inB e.Kind 1 35&&inB e.ID 0 2000&&inB e.Time 0 1099511627776&&aDj (aDu e.Kind) e&&(if yV e.Kind=0 then aJc e else pC ⟨yV e.Kind,e.Seq,e.Name,e.Key,e.N,e.Data,e.Opts⟩)
theorem aJ2 {e:dH} (h:mD e):xX e=some (aJr e):=by
 have hd:eA e.Data:=h.2.2.2.2.2.2.2.2.2.1
 have hk:okS e.Key:=h.2.2.2.2.2.2.2.2.1
 unfold okS at hk
 unfold xX aJr zU
 simp only [aJl,aPn h,aIb,aFB,wS,aJ4 (show e.Key.length≤9223372036854775807 by omega),aJ5 hd,aGB (show e.Key.length≤140737488355328 by omega),aA,aDa (aSQ h (aKH _))]
 cases inB e.Kind 1 35
 ·
  simp [gd]
 cases inB e.ID 0 2000
 ·
  simp [gd]
 cases inB e.Time 0 1099511627776
 ·
  simp [gd]
 cases aDj (aDu e.Kind) e
 ·
  simp [gd]
 simp only [dA,cC,eQ,gd,dP,aA,dZ,aB2]
 split
 ·
  unfold aJc
  simp only [or3,aA]
  generalize oY e.Name=a
  generalize nA e.Key=b
  generalize (nU e.Data&&aCn e.Data)=c
  generalize inB e.N 0 4294967295=d
  have e1:((if (a==true)=true then some b else some default).bind fun (x4:Bool)=>(if ((cond a x4 false)==true)=true then some c else some default).bind fun (x6:Bool)=>(if ((cond (cond a x4 false) x6 false)==true)=true then some d else some default).bind fun (x8:Bool)=>some (cond (cond (cond a x4 false) x6 false) x8 false))=some (a&&b&&c&&d):=by
   cases a <;> cases b <;> cases c <;> rfl
  have e2:((if (a==true)=true then some b else some default).bind fun (x:Bool)=>some (cond a x false))=some (a&&b):=by cases a <;> rfl
  rw [e1,e2]
  simp only [aFb,Bool.or_assoc]
 ·
  rfl
theorem aOu {v:aQ} (h:nU v=true):sN v tL=decide (v.Kind=0):=by
 rw [eO,aKQ (hgt v) v tL (iV _),dT]
 constructor
 ·
  rintro rfl;rfl
 ·
  intro hk
  unfold nU at h
  simp only [bZ] at h
  have h2:fmd false v=true:=by first | exact h.2 | exact h.1 | exact h.1.2 | exact h.2.1
  rw [aIU] at h2
  simp only [bZ] at h2
  have h3:=h2.1
  unfold aK9 at h3
  rw [bH hk] at h3
  simp only [bZ,dT] at h3
  obtain ⟨⟨⟨a,b⟩,c⟩,d⟩:=h3
  cases v
  simp only at *
  subst hk a b
  rw [eS c,eS d]
  rfl
def AgE (k:Int):Prop:=∀ {sq rf n cd:Int}{nm ky:List UInt8}{d:aQ}{op:dS},(nU d=true→sN d tL=decide (d.Kind=0))→(nU d&&(aDE (aCM k) ⟨0,k,0,sq,rf,n,cd,nm,ky,d,op⟩&&(!(aCM k).seq_||inB sq 1 2000)&&(!(aCM k).ref_||inB rf 1 2000)&&aHY ⟨0,k,0,sq,rf,n,cd,nm,ky,d,op⟩))=(aDj (aDu k) ⟨0,k,0,sq,rf,n,cd,nm,ky,d,op⟩&&aJc ⟨0,k,0,sq,rf,n,cd,nm,ky,d,op⟩)
def AgC (k c:Int):Prop:=∀ {sq rf n cd:Int}{nm ky:List UInt8}{d:aQ}{op:dS},(nU d=true→sN d tL=decide (d.Kind=0))→aPs ⟨0,k,0,sq,rf,n,cd,nm,ky,d,op⟩ c=(aDj (aDu k) ⟨0,k,0,sq,rf,n,cd,nm,ky,d,op⟩&&pC ⟨c,sq,nm,ky,n,d,op⟩)
set_option maxHeartbeats 4000000 in
theorem aUJ (k:Int) (hk:k=1∨k=2∨k=3∨k=4∨k=5∨k=6∨k=8):AgE k:=by
 rcases hk with rfl | rfl | rfl | rfl | rfl | rfl | rfl <;> (
  intro sq rf n cd nm ky d op hz
  unfold aDE aDj aCM aDu aHY aJc
  simp only [Int.reduceEq,cL,dR,dJ,cC,sO,mK,dP,eU,kE,tO,dZ,qE,dA,fZ]
  grind )
set_option maxHeartbeats 4000000 in
theorem aUK (k:Int) (hk:k=9∨k=10∨k=11∨k=13∨k=15∨k=17∨k=20):AgE k:=by
 rcases hk with rfl | rfl | rfl | rfl | rfl | rfl | rfl <;> (
  intro sq rf n cd nm ky d op hz
  unfold aDE aDj aCM aDu aHY aJc
  simp only [Int.reduceEq,cL,dR,dJ,cC,sO,mK,dP,eU,kE,tO,dZ,qE,dA,fZ]
  grind )
set_option maxHeartbeats 4000000 in
theorem aUL (k:Int) (hk:k=21∨k=22∨k=24∨k=25∨k=26∨k=33∨k=34):AgE k:=by
 rcases hk with rfl | rfl | rfl | rfl | rfl | rfl | rfl <;> (
  intro sq rf n cd nm ky d op hz
  unfold aDE aDj aCM aDu aHY aJc
  simp only [Int.reduceEq,cL,dR,dJ,cC,sO,mK,dP,eU,kE,tO,dZ,qE,dA,fZ]
  grind )
set_option maxHeartbeats 4000000 in
theorem aGb (k c:Int) (hk:(k=7∧c=1)∨(k=12∧c=2)∨(k=14∧c=3)∨(k=16∧c=4)∨(k=18∧c=7)∨(k=19∧c=5)∨(k=23∧c=6)∨(k=27∧c=8)∨(k=28∧c=9)∨(k=29∧c=10)∨(k=30∧c=11)∨(k=31∧c=12)∨(k=32∧c=13)∨(k=35∧c=14)):AgC k c:=by
 rcases hk with ⟨rfl,rfl⟩ | ⟨rfl,rfl⟩ | ⟨rfl,rfl⟩ | ⟨rfl,rfl⟩ | ⟨rfl,rfl⟩ | ⟨rfl,rfl⟩ | ⟨rfl,rfl⟩ | ⟨rfl,rfl⟩ | ⟨rfl,rfl⟩ | ⟨rfl,rfl⟩ | ⟨rfl,rfl⟩ | ⟨rfl,rfl⟩ | ⟨rfl,rfl⟩ | ⟨rfl,rfl⟩ <;> (
  intro sq rf n cd nm ky d op hz
  unfold aPs
  simp only
  cases hC:pC ⟨_,sq,nm,ky,n,d,op⟩
  ·
   simp
  ·
   unfold pC at hC
   simp only [lN,aGg,Int.reduceEq,dP,eU,bZ,fO,dA,fZ,tO,mK,true_and,dT] at hC
   unfold aDj aDu
   simp only [Int.reduceEq,cL,dR,dJ,cC,sO,mK,dP,eU,kE,tO,dZ,qE,or_false,false_or,or_true,true_or]
   grind )
theorem aRV {u:hD}{e:dH} (h:nU e.Data=false):aDj u e=false:=by unfold aDj;simp [h]
noncomputable def aJn (e:dH):Bool:=nU e.Data&&(if yV e.Kind=0 then aDE (aCM e.Kind) e&&(!(aCM e.Kind).seq_||inB e.Seq 1 2000)&&(!(aCM e.Kind).ref_||inB e.Ref 1 2000)&&aHY e else aPs e (yV e.Kind))
noncomputable def aJo (e:dH):Bool:=aDj (aDu e.Kind) e&&(if yV e.Kind=0 then aJc e else pC ⟨yV e.Kind,e.Seq,e.Name,e.Key,e.N,e.Data,e.Opts⟩)
theorem aTf {k id t sq rf n cd:Int}{nm ky:List UInt8}{d:aQ}{op:dS} (hk:yV k=0) (h:AgE k) (hz:nU d=true→sN d tL=decide (d.Kind=0)):aJn ⟨id,k,t,sq,rf,n,cd,nm,ky,d,op⟩=aJo ⟨id,k,t,sq,rf,n,cd,nm,ky,d,op⟩:=by
 unfold aJn aJo
 simp only
 rw [bH hk,bH hk]
 exact h (sq:=sq) (rf:=rf) (n:=n) (cd:=cd) (nm:=nm) (ky:=ky) (op:=op) hz
theorem aGi {k c id t sq rf n cd:Int}{nm ky:List UInt8}{d:aQ}{op:dS} (hk:yV k=c) (h0:¬c=0) (h:AgC k c) (hz:nU d=true→sN d tL=decide (d.Kind=0)):aJn ⟨id,k,t,sq,rf,n,cd,nm,ky,d,op⟩=aJo ⟨id,k,t,sq,rf,n,cd,nm,ky,d,op⟩:=by
 subst hk
 unfold aJn aJo
 simp only
 rw [bE h0,bE h0]
 have h:=h (sq:=sq) (rf:=rf) (n:=n) (cd:=cd) (nm:=nm) (ky:=ky) (op:=op) hz
 cases hv:nU d
 ·
  rw [aRV hv];rfl
 ·
  exact h
theorem aPw (e:dH):wX e=aJr e:=by
 have hz:=@aOu e.Data
 have e1:wX e=(inB e.Kind 1 35&&inB e.ID 0 2000&&inB e.Time 0 1099511627776&&aJn e):=by unfold wX aJn;simp only [Bool.and_assoc]
 have e2:aJr e=(inB e.Kind 1 35&&inB e.ID 0 2000&&inB e.Time 0 1099511627776&&aJo e):=by unfold aJr aJo;simp only [Bool.and_assoc]
 rw [e1,e2]
 cases hk:inB e.Kind 1 35
 ·
  simp
 have hk2:1≤e.Kind∧e.Kind≤35:=by unfold inB at hk;simpa using hk
 have h:aJn e=aJo e:=by
  clear e1 e2 hk
  obtain ⟨id,kind,time,sq,rf,n,cd,nm,ky,d,op⟩:=e
  simp only at *
  have h:kind=1∨kind=2∨kind=3∨kind=4∨kind=5∨kind=6∨kind=7∨kind=8∨kind=9∨kind=10∨kind=11∨kind=12∨kind=13∨kind=14∨kind=15∨kind=16∨kind=17∨kind=18∨kind=19∨kind=20∨kind=21∨kind=22∨kind=23∨kind=24∨kind=25∨kind=26∨kind=27∨kind=28∨kind=29∨kind=30∨kind=31∨kind=32∨kind=33∨kind=34∨kind=35:=by omega
  rcases h with rfl | rfl | rfl | rfl | rfl | rfl | rfl | rfl | rfl | rfl | rfl | rfl | rfl | rfl | rfl | rfl | rfl | rfl | rfl | rfl | rfl | rfl | rfl | rfl | rfl | rfl | rfl | rfl | rfl | rfl | rfl | rfl | rfl | rfl | rfl <;>
  first | exact aTf rfl (aUJ _ (by decide)) hz | exact aGi (c:=1) rfl (by decide) (aGb _ _ (by decide)) hz | exact aTf rfl (aUK _ (by decide)) hz | exact aGi (c:=2) rfl (by decide) (aGb _ _ (by decide)) hz | exact aGi (c:=3) rfl (by decide) (aGb _ _ (by decide)) hz | exact aGi (c:=4) rfl (by decide) (aGb _ _ (by decide)) hz | exact aGi (c:=7) rfl (by decide) (aGb _ _ (by decide)) hz | exact aGi (c:=5) rfl (by decide) (aGb _ _ (by decide)) hz | exact aTf rfl (aUL _ (by decide)) hz | exact aGi (c:=6) rfl (by decide) (aGb _ _ (by decide)) hz | exact aGi (c:=8) rfl (by decide) (aGb _ _ (by decide)) hz | exact aGi (c:=9) rfl (by decide) (aGb _ _ (by decide)) hz | exact aGi (c:=10) rfl (by decide) (aGb _ _ (by decide)) hz | exact aGi (c:=11) rfl (by decide) (aGb _ _ (by decide)) hz | exact aGi (c:=12) rfl (by decide) (aGb _ _ (by decide)) hz | exact aGi (c:=13) rfl (by decide) (aGb _ _ (by decide)) hz | exact aGi (c:=14) rfl (by decide) (aGb _ _ (by decide)) hz
 rw [h]
def zE:dH:=dH.mk (0:Int) (0:Int) (0:Int) (0:Int) (0:Int) (0:Int) (0:Int) ([]:List UInt8) ([]:List UInt8) zV zP
theorem aSU:mD zE:=⟨by simp [zE,sQ],by simp [zE,sQ],by simp [zE,sQ],by simp [zE,sQ],by simp [zE,sQ],by simp [zE,sQ],by simp [zE,sQ],by simp [zE,okS],by simp [zE,okS],aHX,aMD⟩
theorem aDS {e:dH} (h:mD e):xX e=some (wX e):=by rw [aJ2 h,aPw]
theorem aCj {l:List Int}{i:Nat}{w w':aV}{x:Int} (hi:i<7) (hl:l.length=i) (h:jG (-9223372036854775808) 9223372036854775807 w=some (x,w')):rQ (l,(i:Int),w)=some (.next (l++[x],((i+1:Nat):Int),w')):=by
 unfold rQ
 rw [dW,bH (by simp only;omega),h,aA,wW (by simp only [fU,lH];omega),aA,vN (n:=7) hi (by omega)]
theorem aRX {l:List Int}{w:aV}:rQ (l,((7:Nat):Int),w)=some (.out (l,w)):=by
 unfold rQ
 rw [dW,bE (by simp only;omega)]
theorem aQU {e:Int}{r:aX}{w:aV} (h:kJ e r w):∃ x e' r' w',vE r=some (x,r')∧aAJ w=some (x,w')∧kJ e' r' w'∧mD x∧(e≠0→e'=e)∧(e'≠0→x=zE)∧(e'=0→wX x=true):=by
 obtain ⟨x1,e1,r1,w1,a1,b1,h1,k1,n1,-⟩:=aCp (-9223372036854775808) 9223372036854775807 h
 obtain ⟨x2,e2,r2,w2,a2,b2,h2,k2,n2,-⟩:=aCp (-9223372036854775808) 9223372036854775807 h1
 obtain ⟨x3,e3,r3,w3,a3,b3,h3,k3,n3,-⟩:=aCp (-9223372036854775808) 9223372036854775807 h2
 obtain ⟨x4,e4,r4,w4,a4,b4,h4,k4,n4,-⟩:=aCp (-9223372036854775808) 9223372036854775807 h3
 obtain ⟨x5,e5,r5,w5,a5,b5,h5,k5,n5,-⟩:=aCp (-9223372036854775808) 9223372036854775807 h4
 obtain ⟨x6,e6,r6,w6,a6,b6,h6,k6,n6,-⟩:=aCp (-9223372036854775808) 9223372036854775807 h5
 obtain ⟨x7,e7,r7,w7,a7,b7,h7,k7,n7,-⟩:=aCp (-9223372036854775808) 9223372036854775807 h6
 obtain ⟨t1,e8,r8,w8,a8,b8,h8,k8,n8,-⟩:=aCW 4096 h7
 obtain ⟨t2,e9,r9,w9,a9,b9,h9,k9,n9,-⟩:=aCW 4096 h8
 obtain ⟨v,e10,r10,w10,a10,b10,h10,k10,n10⟩:=aGp h9
 obtain ⟨o,e11,r11,w11,a11,b11,h11,k11,n11⟩:=aKE h10
 have hx:mD (dH.mk x1 x2 x3 x4 x5 x6 x7 t1 t2 v o):=⟨k1,k2,k3,k4,k5,k6,k7,by unfold okS;simp only;omega,by unfold okS;simp only;omega,k10,k11⟩
 have hl:fK rQ (([]:List Int),(0:Int),w)=some ([x1,x2,x3,x4,x5,x6,x7],w7):=by
  exact (mX (aCj (l:=[]) (i:=0) (by omega) rfl b1)).trans<|(mX (aCj (l:=[x1]) (i:=1) (by omega) rfl b2)).trans<|(mX (aCj (l:=[x1,x2]) (i:=2) (by omega) rfl b3)).trans<|(mX (aCj (l:=[x1,x2,x3]) (i:=3) (by omega) rfl b4)).trans<|(mX (aCj (l:=[x1,x2,x3,x4]) (i:=4) (by omega) rfl b5)).trans<|(mX (aCj (l:=[x1,x2,x3,x4,x5]) (i:=5) (by omega) rfl b6)).trans<|(mX (aCj (l:=[x1,x2,x3,x4,x5,x6]) (i:=6) (by omega) rfl b7)).trans<|pY aRX
 have hne:e≠0→e11=e:=fun he=>by
  have c1:=(n1 he).2
  have c2:=(n2 (by omega)).2
  have c3:=(n3 (by omega)).2
  have c4:=(n4 (by omega)).2
  have c5:=(n5 (by omega)).2
  have c6:=(n6 (by omega)).2
  have c7:=(n7 (by omega)).2
  have c8:=(n8 (by omega)).2
  have c9:=(n9 (by omega)).2
  have c10:=n10 (by omega)
  have c11:=n11 (by omega)
  omega
 unfold vE aAJ
 rw [a1,aA,a2,aA,a3,aA,a4,aA,a5,aA,a6,aA,a7,aA,a8,aA,a9,aA,a10,aA,a11,aA,hl,aA]
 have i0:nG [x1,x2,x3,x4,x5,x6,x7] (0:Int)=some x1:=rfl
 have i1:nG [x1,x2,x3,x4,x5,x6,x7] (1:Int)=some x2:=rfl
 have i2:nG [x1,x2,x3,x4,x5,x6,x7] (2:Int)=some x3:=rfl
 have i3:nG [x1,x2,x3,x4,x5,x6,x7] (3:Int)=some x4:=rfl
 have i4:nG [x1,x2,x3,x4,x5,x6,x7] (4:Int)=some x5:=rfl
 have i5:nG [x1,x2,x3,x4,x5,x6,x7] (5:Int)=some x6:=rfl
 have i6:nG [x1,x2,x3,x4,x5,x6,x7] (6:Int)=some x7:=rfl
 rw [i0,aA,i1,aA,i2,aA,i3,aA,i4,aA,i5,aA,i6,aA,b8,aA,b9,aA,b10,aA,b11,aA]
 obtain ⟨f1,f2⟩:=oD h11
 by_cases h0:e11=0
 ·
  subst h0
  rcases Bool.eq_false_or_eq_true (wX (dH.mk x1 x2 x3 x4 x5 x6 x7 t1 t2 v o)) with hr | hr
  ·
   refine ⟨_,0,r11,w11,?_,?_,h11,hx,fun he=>absurd (hne he).symm he,fun he=>absurd rfl he,fun _=>hr⟩
   ·
    rw [f1,aA,aCk hx,hr]
    simp [gd,f1]
   ·
    rw [f2,aA,aDS hx,hr]
    simp [gd,f2]
  ·
   obtain ⟨r',w',g1,g2,g3⟩:=aGo 11 h11
   obtain ⟨f3,f4⟩:=oD g3
   refine ⟨zE,11,r',w',?_,?_,g3,aSU,fun he=>absurd (hne he).symm he,fun _=>rfl,fun he=>absurd he (by decide)⟩
   ·
    rw [f1,aA,aCk hx,hr]
    simp [gd,g1,f3]
    rfl
   ·
    rw [f2,aA,aDS hx,hr]
    simp [gd,g2,f4]
    rfl
 ·
  refine ⟨zE,e11,r11,w11,?_,?_,h11,aSU,hne,fun _=>rfl,fun he=>absurd he h0⟩
  ·
   rw [f1,aA,lZ h0]
   simp [gd,f1,h0]
   rfl
  ·
   rw [f2,aA,lZ h0]
   simp [gd,f2,h0]
   rfl
def aRK (r r':aX) (x:List UInt8):Prop:=∀ rest,At r' rest→At r (x++rest)
theorem aRK.trans {r s t:aX}{x y:List UInt8} (h:aRK r s x) (k:aRK s t y):aRK r t (x++y):=fun rest ht=>by rw [iU];exact h _ (k _ ht)
theorem aPN {l:List UInt8}{low high:Int} (h:(nN l low high).2.2≠0):(nN l low high).1=0:=by
 unfold nN at h ⊢
 split
 ·
  rfl
 ·
  rename_i w n hs
  rw [hs] at h
  simp only at h ⊢
  split
  ·
   rfl
  ·
   rename_i hc
   rw [bE hc] at h
   exact absurd rfl h
theorem aQO {e e':Int}{r r':aX}{w w':aV}{x low high:Int} (hl:kJ e r w) (hl':kJ e' r' w') (h:fF low high r=some (x,r')) (he:e'≠0):x=0:=by
 obtain ⟨b,a,hb,ha,rfl,rfl⟩:=hl
 by_cases h0:e=0
 ·
  subst h0
  rw [aI0 ha hb] at h
  cases h
  obtain ⟨b',a',_,_,h3,_⟩:=hl'
  unfold aCe at h3
  simp only [aX.mk.injEq] at h3
  have:=h3.2.2.1
  exact aPN (by omega)
 ·
  have:fF low high ⟨b,a,e,true⟩=some (0,⟨b,a,e,true⟩):=by unfold fF;rw [aBj];simp [h0]
  rw [this] at h
  cases h
  rfl
theorem aQT {e:Int}{r:aX}{w:aV} (h:kJ e r w):∃ x,pU r=some x∧sR w=some x∧(x=0→At r []):=by
 obtain ⟨b,a,hb,ha,rfl,rfl⟩:=h
 unfold pU sR
 rw [aTe,show kN ⟨true,if e=0 then b.drop a else [],e⟩=some e from rfl]
 by_cases he:e=0
 ·
  subst he
  have e2:(if (0:Int)=0 then b.drop a else [])=b.drop a:=bH rfl
  rw [e2]
  simp only [aA,cL,dA,cC,kH]
  rw [dW,dW]
  by_cases hlt:a<b.length
  ·
   rw [bH (by omega),bH (by omega)];exact ⟨3,rfl,rfl,fun h=>absurd h (by decide)⟩
  ·
   rw [bE (by omega),bE (by omega)];exact ⟨0,rfl,rfl,fun _=>⟨b,a,hb,ha,rfl,List.drop_eq_nil_of_le (by omega)⟩⟩
 ·
  refine ⟨e,by simp [he],by simp [he],fun h=>absurd h he⟩
theorem le_any {e:Int}{r:aX}{w:aV} (h:kJ e r w):∃ x e' r' w',jY r=some (x,r')∧pG w=some (x,w')∧kJ e' r' w'∧sQ x∧(e'≠0→x=0):=by
 obtain ⟨x,e',r',w',h1,h2,h3,h4,h5,h6⟩:=aCp (-9223372036854775808) 9223372036854775807 h
 exact ⟨x,e',r',w',by unfold jY;rw [h1];rfl,by unfold pG;rw [h2];rfl,h3,h4,fun he=>aQO h h3 h1 he⟩
theorem aHf {e:Int}{r:aX}{w:aV} (h:kJ e r w):∃ x e' r' w',oG r=some (x,r')∧gA 4096 w=some (x,w')∧kJ e' r' w'∧okS x:=by
 obtain ⟨x,e',r',w',h1,h2,h3,h4,h5,h6⟩:=aCW 4096 h
 exact ⟨x,e',r',w',by unfold oG;rw [h1];rfl,h2,h3,by unfold okS;omega⟩
theorem aPB {n e:Int}{r q0:aX}{w q1:aV} (h:kJ e r w) (hn:n≤2000):∃ l e' r' w',fK (eH (n,q0)) (([]:List bY),(0:Int),r)=some (l,r')∧fK (nE (n,q1)) ((0:Int),w,([]:List bY))=some (w',l)∧kJ e' r' w'∧aAc 240 lC l:=by
 have key:∃ x y,fK (eH (n,q0)) (([]:List bY),(0:Int),r)=some x∧fK (nE (n,q1)) ((0:Int),w,([]:List bY))=some y∧(∃ e,x.1=y.2∧kJ e x.2 y.1∧aAc 240 lC x.1):=by
  refine aGs (fun (s:(List bY) × Int × aX) (t:Int × aV × (List bY))=>∃ (i:Nat) (l:List bY) (s2:aX) (t2:aV) (e:Int),s=(l,(i:Int),s2)∧t=((i:Int),t2,l)∧kJ e s2 t2∧l.length=i∧(i=0∨(i:Int)≤n)∧(∀ x∈l,lC x))
   (fun s=>(n - s.2.1).toNat) (fun (x:(List bY) × aX) (y:aV × (List bY))=>∃ e,x.1=y.2∧kJ e x.2 y.1∧aAc 240 lC x.1) ?_ _ _ ⟨0,[],r,w,e,rfl,rfl,h,rfl,.inl rfl,by simp⟩
  rintro s t ⟨i,l,s2,t2,e,rfl,rfl,hl,hlen,hik,hok⟩
  have hend:(¬(i:Int)<n∨e≠0)→eH (n,q0) (l,(i:Int),s2)=some (.out (l,s2))∧nE (n,q1) ((i:Int),t2,l)=some (.out (t2,l)):=fun hc=>by
   unfold eH nE
   simp only
   by_cases hlt:(i:Int)<n
   ·
    have he:e≠0:=by rcases hc with h | h;exact absurd hlt h;exact h
    rw [dW,bH hlt,(oD hl).1,aA,lZ he,dW,bH hlt,(oD hl).2,aA,lZ he]
    exact ⟨rfl,rfl⟩
   ·
    rw [dW,bE hlt,dW,bE hlt]
    exact ⟨rfl,rfl⟩
  by_cases hgo:(i:Int)<n∧e=0
  ·
   obtain ⟨hlt,rfl⟩:=hgo
   obtain ⟨x,e',r',w',d1,d2,d3,d4,-⟩:=aNX hl
   have hw:IntKind.i64.wrap ((i:Int)+1)=((i+1:Nat):Int):=by rw [w64 (by omega) (by omega)];omega
   refine .inl ⟨(l++[x],((i+1:Nat):Int),r'),(((i+1:Nat):Int),w',l++[x]),?_,?_,⟨i+1,l++[x],r',w',e',rfl,rfl,d3,by simp [hlen],.inr (by omega),fun y hy=>?_⟩,by simp only;omega⟩
   ·
    unfold eH
    simp only
    rw [dW,bH hlt,(oD hl).1,aA]
    simp only [cL,dJ,aA,Fl.next]
    rw [d1,aA,wW (by simp only [fU,lH];omega),aA,hw]
   ·
    unfold nE
    simp only
    rw [dW,bH hlt,(oD hl).2,aA]
    simp only [cL,dJ,aA,Fl.next]
    rw [d2,aA,wW (by simp only [fU,lH];omega),aA,hw]
   ·
    rcases fH.1 hy with hy | hy
    ·
     exact hok y hy
    ·
     rw [kQ.1 hy];exact d4
  ·
   obtain ⟨c1,c2⟩:=hend (by by_cases hlt:(i:Int)<n;exact .inr fun he=>hgo ⟨hlt,he⟩;exact .inl hlt)
   exact .inr ⟨(l,s2),(t2,l),c1,pY c2,e,rfl,hl,⟨by simp only;omega,by simp only;omega,hok⟩⟩
 obtain ⟨⟨l,r'⟩,⟨w',l2⟩,a,b,e',c1,c2,c3⟩:=key
 simp only at c1 c2 c3
 subst c1
 exact ⟨l,e',r',w',a,b,c2,c3⟩
theorem aLe {e most:Int}{r:aX}{w:aV} (h:kJ e r w) (h0:0≤most) (hm:most≤2000):∃ l e' r' w' n w1,gK most r=some (l,r')∧vP most w=some (n,w1)∧fK (nE (n,w1)) ((0:Int),w1,([]:List bY))=some (w',l)∧kJ e' r' w'∧aAc 240 lC l:=by
 obtain ⟨x,e1,r1,w1,a1,b1,l1,k1,z1⟩:=le_any h
 unfold gK vP
 rw [a1,b1,aA,aA]
 simp only
 rw [(oD l1).1,aA,wV,aDT,aA]
 cases hin:inB x 0 most
 ·
  have he:e1=0:=oF fun hne=>by
   have:=z1 hne
   subst this
   unfold inB at hin
   simp at hin
   omega
  subst he
  obtain ⟨r2,w2,f1,f2,f3⟩:=aGo 3 l1
  rw [bH rfl] at f3
  simp only [cL,eQ,gd,dP,aA,fZ,dJ]
  rw [f1,f2,aA,aA,aA]
  have g1:fK (eH (x,r1)) (([]:List bY),(0:Int),r2)=some ([],r2):=by
   refine pY ?_
   unfold eH
   simp only
   by_cases hlt:(0:Int)<x
   ·
    rw [dW,bH hlt,(oD f3).1,aA];rfl
   ·
    rw [dW,bE hlt];rfl
  have g2:fK (nE ((0:Int),w2)) ((0:Int),w2,([]:List bY))=some (w2,[]):=by
   refine pY ?_
   unfold nE
   rfl
  rw [g1,aA]
  exact ⟨[],3,r2,w2,0,w2,rfl,rfl,g2,f3,⟨by simp,by simp,by simp⟩⟩
 ·
  have hx:x≤2000:=by
   unfold inB at hin
   simp only [bZ,dT] at hin
   omega
  obtain ⟨l,e',r',w',m1,m2,m3,m4⟩:=aPB (q0:=r1) (q1:=w1) l1 hx
  have hg:(gd ((decide (e1=(0:Int)))==true) (some true)).bind (fun (b:Bool)=>cond (cond (decide (e1=(0:Int))) (!b) false) ((jS (3:Int) r1).bind fun (x:aX)=>some x) (some r1))=some r1:=by
   by_cases he:e1=0
   ·
    simp [he,gd]
   ·
    simp [he,gd]
  rw [hg,aA,m1,aA,dA,cC]
  exact ⟨l,e',r',w',x,w1,rfl,rfl,m2,m3,m4⟩
theorem aPC {n e:Int}{r q0:aX}{w q1:aV} (h:kJ e r w) (hn:n≤2000):∃ l e' r' w',fK (eX (n,q0)) (([]:List dH),(0:Int),r)=some (l,r')∧fK (kL (n,q1)) ((0:Int),w,([]:List dH))=some (w',l)∧kJ e' r' w'∧aAc 272 mD l:=by
 have key:∃ x y,fK (eX (n,q0)) (([]:List dH),(0:Int),r)=some x∧fK (kL (n,q1)) ((0:Int),w,([]:List dH))=some y∧(∃ e,x.1=y.2∧kJ e x.2 y.1∧aAc 272 mD x.1):=by
  refine aGs (fun (s:(List dH) × Int × aX) (t:Int × aV × (List dH))=>∃ (i:Nat) (l:List dH) (s2:aX) (t2:aV) (e:Int),s=(l,(i:Int),s2)∧t=((i:Int),t2,l)∧kJ e s2 t2∧l.length=i∧(i=0∨(i:Int)≤n)∧(∀ x∈l,mD x))
   (fun s=>(n - s.2.1).toNat) (fun (x:(List dH) × aX) (y:aV × (List dH))=>∃ e,x.1=y.2∧kJ e x.2 y.1∧aAc 272 mD x.1) ?_ _ _ ⟨0,[],r,w,e,rfl,rfl,h,rfl,.inl rfl,by simp⟩
  rintro s t ⟨i,l,s2,t2,e,rfl,rfl,hl,hlen,hik,hok⟩
  have hend:(¬(i:Int)<n∨e≠0)→eX (n,q0) (l,(i:Int),s2)=some (.out (l,s2))∧kL (n,q1) ((i:Int),t2,l)=some (.out (t2,l)):=fun hc=>by
   unfold eX kL
   simp only
   by_cases hlt:(i:Int)<n
   ·
    have he:e≠0:=by rcases hc with h | h;exact absurd hlt h;exact h
    rw [dW,bH hlt,(oD hl).1,aA,lZ he,dW,bH hlt,(oD hl).2,aA,lZ he]
    exact ⟨rfl,rfl⟩
   ·
    rw [dW,bE hlt,dW,bE hlt]
    exact ⟨rfl,rfl⟩
  by_cases hgo:(i:Int)<n∧e=0
  ·
   obtain ⟨hlt,rfl⟩:=hgo
   obtain ⟨x,e',r',w',d1,d2,d3,d4,-,-,-⟩:=aQU hl
   have hw:IntKind.i64.wrap ((i:Int)+1)=((i+1:Nat):Int):=by rw [w64 (by omega) (by omega)];omega
   refine .inl ⟨(l++[x],((i+1:Nat):Int),r'),(((i+1:Nat):Int),w',l++[x]),?_,?_,⟨i+1,l++[x],r',w',e',rfl,rfl,d3,by simp [hlen],.inr (by omega),fun y hy=>?_⟩,by simp only;omega⟩
   ·
    unfold eX
    simp only
    rw [dW,bH hlt,(oD hl).1,aA]
    simp only [cL,dJ,aA,Fl.next]
    rw [d1,aA,wW (by simp only [fU,lH];omega),aA,hw]
   ·
    unfold kL
    simp only
    rw [dW,bH hlt,(oD hl).2,aA]
    simp only [cL,dJ,aA,Fl.next]
    rw [d2,aA,wW (by simp only [fU,lH];omega),aA,hw]
   ·
    rcases fH.1 hy with hy | hy
    ·
     exact hok y hy
    ·
     rw [kQ.1 hy];exact d4
  ·
   obtain ⟨c1,c2⟩:=hend (by by_cases hlt:(i:Int)<n;exact .inr fun he=>hgo ⟨hlt,he⟩;exact .inl hlt)
   exact .inr ⟨(l,s2),(t2,l),c1,pY c2,e,rfl,hl,⟨by simp only;omega,by simp only;omega,hok⟩⟩
 obtain ⟨⟨l,r'⟩,⟨w',l2⟩,a,b,e',c1,c2,c3⟩:=key
 simp only at c1 c2 c3
 subst c1
 exact ⟨l,e',r',w',a,b,c2,c3⟩
theorem aLf {e most:Int}{r:aX}{w:aV} (h:kJ e r w) (h0:0≤most) (hm:most≤2000):∃ l e' r' w' n w1,jE most r=some (l,r')∧vP most w=some (n,w1)∧fK (kL (n,w1)) ((0:Int),w1,([]:List dH))=some (w',l)∧kJ e' r' w'∧aAc 272 mD l:=by
 obtain ⟨x,e1,r1,w1,a1,b1,l1,k1,z1⟩:=le_any h
 unfold jE vP
 rw [a1,b1,aA,aA]
 simp only
 rw [(oD l1).1,aA,wV,aDT,aA]
 cases hin:inB x 0 most
 ·
  have he:e1=0:=oF fun hne=>by
   have:=z1 hne
   subst this
   unfold inB at hin
   simp at hin
   omega
  subst he
  obtain ⟨r2,w2,f1,f2,f3⟩:=aGo 3 l1
  rw [bH rfl] at f3
  simp only [cL,eQ,gd,dP,aA,fZ,dJ]
  rw [f1,f2,aA,aA,aA]
  have g1:fK (eX (x,r1)) (([]:List dH),(0:Int),r2)=some ([],r2):=by
   refine pY ?_
   unfold eX
   simp only
   by_cases hlt:(0:Int)<x
   ·
    rw [dW,bH hlt,(oD f3).1,aA];rfl
   ·
    rw [dW,bE hlt];rfl
  have g2:fK (kL ((0:Int),w2)) ((0:Int),w2,([]:List dH))=some (w2,[]):=by
   refine pY ?_
   unfold kL
   rfl
  rw [g1,aA]
  exact ⟨[],3,r2,w2,0,w2,rfl,rfl,g2,f3,⟨by simp,by simp,by simp⟩⟩
 ·
  have hx:x≤2000:=by
   unfold inB at hin
   simp only [bZ,dT] at hin
   omega
  obtain ⟨l,e',r',w',m1,m2,m3,m4⟩:=aPC (q0:=r1) (q1:=w1) l1 hx
  have hg:(gd ((decide (e1=(0:Int)))==true) (some true)).bind (fun (b:Bool)=>cond (cond (decide (e1=(0:Int))) (!b) false) ((jS (3:Int) r1).bind fun (x:aX)=>some x) (some r1))=some r1:=by
   by_cases he:e1=0
   ·
    simp [he,gd]
   ·
    simp [he,gd]
  rw [hg,aA,m1,aA,dA,cC]
  exact ⟨l,e',r',w',x,w1,rfl,rfl,m2,m3,m4⟩

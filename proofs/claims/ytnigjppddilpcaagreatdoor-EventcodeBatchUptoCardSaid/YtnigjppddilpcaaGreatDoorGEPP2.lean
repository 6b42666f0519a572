/- Plain laws: what the functions compute, with no program in sight. -/
import Derived.Test.YtnigjppddilpcaaGreatDoorPk2
import Derived.Test.YtnigjppddilpcaaGreatDoorGEF5
import Derived.Test.YtnigjppddilpcaaGreatDoorGEF10
import Derived.Test.YtnigjppddilpcaaGreatDoorGEF11
import Derived.Test.YtnigjppddilpcaaGreatDoorGEPP1
import Derived.Test.YtnigjppddilpcaaGreatDoorGEPP0
import Derived.Test.YtnigjppddilpcaaGreatDoorGEF7
import Derived.Test.YtnigjppddilpcaaGreatDoorGEF14
import Derived.Test.YtnigjppddilpcaaGreatDoorGESh
import Derived.Test.YtnigjppddilpcaaGreatDoorGEF3
import Derived.Test.YtnigjppddilpcaaGreatDoorGEF2
import Derived.Test.YtnigjppddilpcaaGreatDoorGEF4
import Derived.Test.YtnigjppddilpcaaGreatDoorGEF6
import Derived.Test.YtnigjppddilpcaaGreatDoorGEF9
import Derived.Test.YtnigjppddilpcaaGreatDoorLib
namespace Go.Proofs.YtnigjppddilpcaaGreatDoor
open Go Abs
set_option maxRecDepth 100000
set_option linter.unusedVariables false
set_option linter.unusedSimpArgs false
theorem aAp (n:Nat):(∀ a0 m,n≤m→LeO (gK n a0) (gK m a0)):=by
 induction n with
 | zero=>exact fun _ _ _=>by intro r h;simp [gK] at h
 | succ n ih =>
  intro a0 m hm
  obtain ⟨m,rfl⟩:∃ k,m=k+1:=⟨m - 1,by omega⟩
  rw [gK,gK]
  repeat' with_reducible (first | exact ih _ _ (by omega) | refine aEx ?_ (fun _=>?_) | refine aEy ?_ ?_ | refine aK7 ?_ | refine aEz (fun _=>?_) | refine aCE (fun _=>?_) | exact aCF _)
theorem aDw {n:Nat}{p0n:Int}{r:(List UInt8)} (h:gK n p0n=some r):qQ p0n=some r:=by
 unfold qQ
 exact aNb (n:=n) h fun m hm=>(aAp n) p0n m hm
theorem pC (kH rL:Int→Int→aT→Option (aC × Int × aT)) (x1:(Int × aT)) (wZ:Int) (qM:Int) (s10:(Int × Int × aT × (List aC) × (List (List UInt8)))) (hrec_value_decoder_value:∀ a0 a1 a2,LeO (rL a0 a1 a2) (kH a0 a1 a2)):LeO (eX rL x1 wZ qM s10) (eX kH x1 wZ qM s10):=by
 unfold eX
 repeat' with_reducible (first | exact hrec_value_decoder_value _ _ _ | refine aEx ?_ (fun _=>?_) | refine aEy ?_ ?_ | refine aK7 ?_ | refine aEz (fun _=>?_) | refine aCE (fun _=>?_) | exact aCF _)
theorem vS (n:Nat):(∀ a0 a1 a2 a3 a4 a5 m,n≤m→LeO (fP n a0 a1 a2 a3 a4 a5) (fP m a0 a1 a2 a3 a4 a5))∧(∀ a0 a1 a2 m,n≤m→LeO (dU n a0 a1 a2) (dU m a0 a1 a2)):=by
 induction n with
 | zero=>exact ⟨fun _ _ _ _ _ _ _ _=>by intro r h;simp [fP] at h,fun _ _ _ _ _=>by intro r h;simp [dU] at h⟩
 | succ n ih =>
  refine ⟨?_,?_⟩
  ·
   intro a0 a1 a2 a3 a4 a5 m hm
   obtain ⟨m,rfl⟩:∃ k,m=k+1:=⟨m - 1,by omega⟩
   rw [fP,fP]
   repeat' with_reducible (first | exact ih.1 _ _ _ _ _ _ _ (by omega) | exact ih.2 _ _ _ _ (by omega) | refine pC _ _ _ _ _ _ (fun _ _ _=>?_) | refine aEx ?_ (fun _=>?_) | refine aEy ?_ ?_ | refine aK7 ?_ | refine aEz (fun _=>?_) | refine aCE (fun _=>?_) | exact aCF _)
  ·
   intro a0 a1 a2 m hm
   obtain ⟨m,rfl⟩:∃ k,m=k+1:=⟨m - 1,by omega⟩
   rw [dU,dU]
   repeat' with_reducible (first | exact ih.1 _ _ _ _ _ _ _ (by omega) | exact ih.2 _ _ _ _ (by omega) | refine pC _ _ _ _ _ _ (fun _ _ _=>?_) | refine aEx ?_ (fun _=>?_) | refine aEy ?_ ?_ | refine aK7 ?_ | refine aEz (fun _=>?_) | refine aCE (fun _=>?_) | exact aCF _)
theorem yV {n:Nat}{mA:Int}{fB:Int}{lZ:aT}{r:(aC × Int × aT)} (h:dU n mA fB lZ=some r):mX mA fB lZ=some r:=by
 unfold mX
 exact aNb (n:=n) h fun m hm=>(vS n).2 mA fB lZ m hm
end Go.Proofs.YtnigjppddilpcaaGreatDoor
namespace Go.Proofs.YtnigjppddilpcaaGreatDoor
open Go Abs
set_option linter.unusedSimpArgs false
set_option linter.unusedVariables false
def At (r:aT) (rest:List UInt8):Prop:=∃ (b:List UInt8) (a:Nat),b.length≤1000000000∧a≤b.length∧r=⟨b,a,0,true⟩∧b.drop a=rest
theorem sQ {r:aT}{l:List UInt8} (h:At r l):eV r=some 0:=by
 obtain ⟨b,a,_,_,rfl,_⟩:=h
 rfl
theorem aOs {r:aT}{l:List UInt8} (h:At r l):lE r=some (l.length:Int):=by
 obtain ⟨b,a,hb,ha,rfl,rfl⟩:=h
 rw [aOO,if_pos rfl,w64 (by omega) (by omega),List.length_drop]
 congr 1;omega
theorem aKV {b:List UInt8} (h:b.length≤1000000000):∃ r,uM b=some r∧At r b:=⟨_,aIk (by omega),b,0,h,by omega,rfl,rfl⟩
theorem sR {r:aT}{n low high:Int}{rest:List UInt8} (h:At r (jI n++rest)) (hn:rB n) (h1:low≤n) (h2:n≤high):∃ r',eQ low high r=some (n,r')∧At r' rest:=by
 obtain ⟨b,a,hb,ha,rfl,hd⟩:=h
 have hr:=aHd (low:=low) (high:=high) rest hn.1 hn.2
 rw [if_neg (by omega)] at hr
 have hlen:(jI n).length≤b.length - a:=by
  have:=congrArg List.length hd
  simp only [List.length_drop,List.length_append] at this
  omega
 refine ⟨_,by rw [aM4 ha hb,hd];unfold jI;rw [hr],b,a+(jI n).length,hb,by omega,?_,?_⟩
 ·
  unfold aAv
  rw [hd];unfold jI;rw [hr];rfl
 ·
  rw [← List.drop_drop,hd,List.drop_left]
theorem aBd {r:aT}{s:List UInt8}{most:Int}{rest:List UInt8} (h:At r (tT s++rest)) (hs:(s.length:Int)≤most):∃ r',gI most r=some (s,r')∧At r' rest:=by
 obtain ⟨b,a,hb,ha,rfl,hd⟩:=h
 have hl:=congrArg List.length hd
 simp only [List.length_drop,List.length_append,tT] at hl
 have hr:=aHd (low:=0) (high:=most) (s++rest) (n:=(s.length:Int)) (by omega) (by omega)
 rw [if_neg (by omega)] at hr
 have hd':b.drop a=mR (zz s.length)++(s++rest):=by rw [hd,tT,List.append_assoc]
 have hd2:b.drop (a+(mR (zz s.length)).length)=s++rest:=by rw [← List.drop_drop,hd',List.drop_left]
 refine ⟨⟨b,(a+(mR (zz s.length)).length+s.length:Nat),0,true⟩,?_,b,a+(mR (zz s.length)).length+s.length,hb,by omega,rfl,?_⟩
 ·
  rw [aO7 ha hb]
  unfold aNr
  rw [hd',hr]
  simp only [ne_eq,not_true_eq_false,if_false]
  rw [if_neg (by omega),hd2]
  simp
 ·
  rw [← List.drop_drop,hd2,List.drop_left]
theorem aMb {l:List (List UInt8)} (h:l.length≤9223372036854775807) (hr:aEc l=true) (i:Nat) (hi:i+1<l.length):Op.bytesLess l[i] l[i+1]=true:=aFJ.1 hr i hi
theorem aOM:∀ (n:Nat) (v:aC),sW v≤n→sW v≤nsz v:=by
 intro n
 induction n with
 | zero=>intro v h;have:=hP v;omega
 | succ n ih =>
  intro v h
  have hh:=hP v
  rw [hh,aFn]
  have key:∀ l:List aC,(∀ x∈l,sW x≤nsz x)→aDl l≤lP l:=by
   intro l
   induction l with
   | nil=>simp [aDl,lP]
   | cons x l ihl =>
    intro hl
    have h1:=hl x (by simp)
    have h2:=ihl (fun y hy=>hl y (by simp [hy]))
    simp only [aDl,lP];omega
  have:=key v.Items (fun x hx=>ih x (by have:=jB hx;omega))
  omega
theorem aI4:∀ {l:List aC}{x:aC},x∈l→nsz x≤lP l
 | [],x,h=>by simp at h
 | y :: l,x,h=>by
  simp only [lP]
  rcases List.mem_cons.1 h with rfl | h
  ·
   omega
  ·
   have:=aI4 h;omega
theorem aK0:∀ (n:Nat) (v:aC),sW v≤n→nsz v≤1000000→dep v=(sW v:Int)∧siz v=(nsz v:Int):=by
 intro n
 induction n with
 | zero=>intro v h;have:=hP v;omega
 | succ n ih =>
  intro v h hn
  have hh:=hP v
  have hz:=aFn v
  have hm:=aOM _ v (Nat.le_refl _)
  have k1:∀ (l:List aC) (a:Nat),(∀ x∈l,dep x=(sW x:Int))→l.foldl (fun a x=>if dep x > a then dep x else a) (a:Int)=((max a (aDl l):Nat):Int):=by
   intro l
   induction l with
   | nil=>intro a _;simp [aDl]
   | cons x l ihl =>
    intro a hl
    have h1:=hl x (by simp)
    simp only [List.foldl_cons,h1]
    have e:(if ((sW x:Nat):Int) > ((a:Nat):Int) then ((sW x:Nat):Int) else ((a:Nat):Int))=((max a (sW x):Nat):Int):=by split <;> omega
    rw [e,ihl _ (fun y hy=>hl y (by simp [hy]))]
    simp only [aDl]
    omega
  have k2:∀ (l:List aC) (a:Nat),(∀ x∈l,siz x=(nsz x:Int))→a+lP l≤2000000→l.foldl (fun a x=>IntKind.i64.wrap (a+siz x)) (a:Int)=((a+lP l:Nat):Int):=by
   intro l
   induction l with
   | nil=>intro a _ _;simp [lP]
   | cons x l ihl =>
    intro a hl ha
    simp only [lP] at ha
    have h1:=hl x (by simp)
    simp only [List.foldl_cons,h1]
    rw [w64 (by omega) (by omega),show ((a:Nat):Int)+(nsz x:Int)=((a+nsz x:Nat):Int) by omega,ihl _ (fun y hy=>hl y (by simp [hy])) (by omega)]
    simp only [lP]
    omega
  have hi:∀ x∈v.Items,dep x=(sW x:Int)∧siz x=(nsz x:Int):=fun x hx=>ih x (by have:=jB hx;omega) (by have:=aI4 hx;omega)
  constructor
  ·
   rw [aKd]
   have:=k1 v.Items 0 (fun x hx=>(hi x hx).1)
   simp only [Int.natCast_zero] at this
   rw [this,w64 (by omega) (by omega)]
   omega
  ·
   rw [aKD]
   have:=k2 v.Items 1 (fun x hx=>(hi x hx).2) (by omega)
   rw [show (1:Int)=((1:Nat):Int) from rfl,this]
   omega
theorem aFo {r:aT}{l:List UInt8} (k:Int) (h:At r l):gX true k r=some (true,r):=by
 unfold gX
 rw [sQ h]
 simp [sQ h]
theorem aBk {α:Type} (f:α→List UInt8) (l:List α) (i:Nat) (hi:i<l.length):(l.drop i).flatMap f=f l[i]++(l.drop (i+1)).flatMap f:=by
 rw [List.drop_eq_getElem_cons hi,List.flatMap_cons]
theorem aDo:∀ (l:List aC) (i:Nat) (hi:i<l.length),lP (l.take (i+1))=lP (l.take i)+nsz l[i]
 | [],i,hi=>by simp at hi
 | x :: l,0,hi=>by simp [lP]
 | x :: l,i+1,hi=>by
  have:=aDo l i (by simpa using hi)
  simp only [List.take_succ_cons,lP,List.getElem_cons_succ] at this ⊢
  omega
theorem zM:∀ (l:List aC) (i:Nat),lP (l.take i)≤lP l
 | [],i=>by simp
 | x :: l,0=>by simp [lP]
 | x :: l,i+1=>by have:=zM l i;simp only [List.take_succ_cons,lP];omega
theorem aKJ:∀ (n:Nat) (v:aC) (d:Int) (k:Nat) (r:aT) (rest:List UInt8),At r (pL v++rest)→cL v→wK false v=true→shr v=true→0≤d→(sW v:Int)+d≤17→k+nsz v≤1000→2*sW v≤n →
  ∃ r',dU n d k r=some (v,((k+nsz v:Nat):Int),r')∧At r' rest:=by
 intro n
 induction n using Nat.strongRecOn with
 | _ n ih =>
  intro v d k r rest hat hv hf hs hd0 hd hk hn
  have hh:=hP v
  have hz:=aFn v
  obtain ⟨m,rfl⟩:∃ m,n=m+2:=⟨n - 2,by omega⟩
  obtain ⟨q0,q1,q2,q3,q4⟩:=(dH v).1 hv
  have hft:=hf
  rw [aMX (sW v) v (Nat.le_refl _)] at hft
  simp only [Bool.and_eq_true,Bool.not_eq_true'] at hft
  obtain ⟨l1,l2,l3⟩:=aE4 hft.1
  have hfi:∀ x∈v.Items,wK false x=true:=(aE4 hf).2.2
  have hs':=hs
  rw [aKC] at hs'
  simp only [Bool.and_eq_true,Bool.not_eq_true',List.all_eq_true,List.any_eq_false,iY,decide_eq_false_iff_not,decide_eq_true_eq] at hs'
  obtain ⟨⟨s1,s2⟩,s3⟩:=hs'
  have hflo:zI false v=true:=by rw [aBX,Bool.and_eq_true] at hf;exact hf.1
  have hk05:0≤v.Kind∧v.Kind≤5:=by
   unfold zI at hflo
   by_cases h0:v.Kind=0
   ·
    omega
   by_cases h1:v.Kind=1
   ·
    omega
   by_cases h2:v.Kind=2
   ·
    omega
   by_cases h6:v.Kind=6
   ·
    simp [h6] at hflo
   by_cases h3:v.Kind=3
   ·
    omega
   by_cases h4:v.Kind=4
   ·
    omega
   by_cases h5:v.Kind=5
   ·
    omega
   simp [h0,h1,h2,h6,h3,h4,h5] at hflo
  rw [aH8,List.append_assoc] at hat
  obtain ⟨r1,a1,a2⟩:=sR (low:=-9223372036854775808) (high:=9223372036854775807) hat q0 q0.1 q0.2
  have ek:IntKind.i64.wrap ((k:Int)+1)=((k+1:Nat):Int):=by rw [w64 (by omega) (by omega)];omega
  rw [dU]
  have c1:(cond (decide ((k:Int)<(1000:Int))) (decide (d≤(16:Int))) false)=true:=by
   have h1:(k:Int)<1000:=by omega
   have h2:d≤16:=by omega
   simp [h1,h2]
  have c2:(cond (decide ((0:Int)≤v.Kind)) (decide (v.Kind≤(5:Int))) false)=true:=by simp [hk05.1,hk05.2]
  rw [c1,aFo _ hat]
  simp only [Option.bind_some,Bool.not_true,cond_false]
  rw [a1]
  simp only [Option.bind_some]
  rw [c2,ek,aFo _ a2]
  simp only [Option.bind_some,Bool.not_true,cond_false]
  have hnil:∀ {α:Type}{l:List α},decide (l.length=0)=true→l=[]:=fun h=>by simpa using h
  by_cases h1:v.Kind=1
  ·
   simp only [h1,true_or,if_true] at a2
   obtain ⟨r2,b1,b2⟩:=sR (low:=-9223372036854775808) (high:=9223372036854775807) a2 q1 q1.1 q1.2
   have hfl:=hflo
   simp only [zI,h1,Int.reduceEq,if_true,if_false,Bool.and_eq_true,Bool.or_eq_true,decide_eq_true_eq] at hfl
   have c3:(cond (decide (v.Int=(0:Int))) true (decide (v.Int=(1:Int))))=true:=by rcases hfl.1.1.1 with h | h <;> simp [h]
   simp only [h1,decide_true,cond_true]
   rw [b1]
   simp only [Option.bind_some]
   rw [c3,aFo _ b2]
   simp only [Option.bind_some,Fl.next]
   have hit:=l1 (by omega) (by omega)
   have hks:v.Keys=[]:=by simpa using hfl.2
   have htx:v.Text=[]:=hfl.1.1.2
   refine ⟨r2,?_,b2⟩
   rw [hz,hit]
   obtain ⟨kd,i,t,l,ks⟩:=v
   simp only at h1 hit hks htx ⊢
   subst h1 hit hks htx
   simp [lP]
  by_cases h2:v.Kind=2
  ·
   simp only [h2,true_or,or_true,if_true] at a2
   obtain ⟨r2,b1,b2⟩:=sR (low:=-9223372036854775808) (high:=9223372036854775807) a2 q1 q1.1 q1.2
   have hfl:=hflo
   simp only [zI,h2,Int.reduceEq,if_true,if_false,Bool.and_eq_true,decide_eq_true_eq] at hfl
   simp only [h2,Int.reduceEq,decide_false,decide_true,cond_true,cond_false]
   rw [b1]
   simp only [Option.bind_some,Fl.next]
   have hit:=l1 (by omega) (by omega)
   have hks:v.Keys=[]:=by simpa using hfl.2
   have htx:v.Text=[]:=hfl.1.1
   refine ⟨r2,?_,b2⟩
   rw [hz,hit]
   obtain ⟨kd,i,t,l,ks⟩:=v
   simp only at h2 hit hks htx ⊢
   subst h2 hit hks htx
   simp [lP]
  by_cases h3:v.Kind=3
  ·
   simp only [h3,Int.reduceEq,or_self,if_true,if_false] at a2
   obtain ⟨r2,b1,b2⟩:=aBd (most:=9223372036854775807) a2 (by omega)
   have hfl:=hflo
   simp only [zI,h3,Int.reduceEq,if_true,if_false,Bool.and_eq_true,decide_eq_true_eq] at hfl
   simp only [h3,Int.reduceEq,decide_false,decide_true,cond_true,cond_false]
   rw [b1]
   simp only [Option.bind_some]
   have c3:decide ((v.Text.length:Int)≤4096)=true:=by simp;omega
   rw [c3,aFo _ b2]
   simp only [Option.bind_some,Fl.next]
   have hit:=l1 (by omega) (by omega)
   have hks:v.Keys=[]:=by simpa using hfl.2
   have hin:v.Int=0:=hfl.1.1
   refine ⟨r2,?_,b2⟩
   rw [hz,hit]
   obtain ⟨kd,i,t,l,ks⟩:=v
   simp only at h3 hit hks hin ⊢
   subst h3 hit hks hin
   simp [lP]
  by_cases h0:v.Kind=0
  ·
   simp only [h0,Int.reduceEq,or_self,if_false,List.nil_append] at a2
   have hfl:=hflo
   simp only [zI,h0,if_true,Bool.and_eq_true,decide_eq_true_eq] at hfl
   simp only [h0,Int.reduceEq,decide_false,cond_false,Option.bind_some,Fl.next]
   have hit:=l1 (by omega) (by omega)
   have hks:v.Keys=[]:=by simpa using hfl.2
   have htx:v.Text=[]:=hfl.1.1.2
   have hin:v.Int=0:=hfl.1.1.1
   refine ⟨r1,?_,a2⟩
   rw [hz,hit]
   obtain ⟨kd,i,t,l,ks⟩:=v
   simp only at h0 hit hks htx hin ⊢
   subst h0 hit hks htx hin
   simp [lP]
  have h45:v.Kind=4∨v.Kind=5:=by omega
  have e45:(cond (decide (v.Kind=(4:Int))) (some (decide (v.Kind=(4:Int)))) (some (decide (v.Kind=(5:Int)))))=some true:=by rcases h45 with h | h <;> simp [h]
  simp only [h1,h2,h3,decide_false,cond_false]
  rw [e45]
  simp only [Option.bind_some,cond_true]
  have hnl:v.Items.length≤lP v.Items:=aLa _
  have okn:rB (v.Items.length:Int):=⟨by omega,by omega⟩
  have hdw:IntKind.i64.wrap (d+1)=d+1:=w64 (by omega) (by omega)
  have c3:(cond (decide ((0:Int)≤(v.Items.length:Int))) (decide ((v.Items.length:Int)≤(1000:Int))) false)=true:=by
   have h1:(0:Int)≤(v.Items.length:Int):=by omega
   have h2:(v.Items.length:Int)≤1000:=by omega
   simp [h1,h2]
  have hItem:∀ (i:Nat) (hi:i<v.Items.length) (k':Nat) (r:aT) (rest:List UInt8),k'+nsz v.Items[i]≤1000→At r (pL v.Items[i]++rest)→∃ r',dU m (IntKind.i64.wrap (d+1)) k' r=some (v.Items[i],((k'+nsz v.Items[i]:Nat):Int),r')∧At r' rest:=fun i hi k' r rest hk' hat'=>by
   have hmem:=List.getElem_mem hi
   have hge:=jB hmem
   rw [hdw]
   exact ih m (by omega) v.Items[i] (d+1) k' r rest hat' (q3.2.2 _ hmem) (hfi _ hmem) (s3 _ hmem) (by omega) (by omega) hk' (by omega)
  rw [fP]
  by_cases h4:v.Kind=4
  ·
   simp only [h4,Int.reduceEq,or_self,if_true,if_false,List.append_assoc] at a2
   obtain ⟨r2,b1,b2⟩:=sR (low:=-9223372036854775808) (high:=9223372036854775807) a2 okn okn.1 okn.2
   rw [b1]
   simp only [Option.bind_some]
   rw [c3,aFo _ b2]
   simp only [Option.bind_some,Bool.not_true,cond_false]
   obtain ⟨X,g1,g2⟩:=rP (body:=eX (dU m) ((v.Items.length:Int),r2) v.Kind d)
    (fun s=>∃ (i:Nat) (r':aT),i≤v.Items.length∧s=((i:Int),((k+1+lP (v.Items.take i):Nat):Int),r',v.Items.take i,[])∧At r' ((v.Items.drop i).flatMap pL++rest)) (fun s=>v.Items.length - s.1.toNat)
    (fun X=>∃ r',X=.go (((k+1+lP v.Items:Nat):Int),r',v.Items,[])∧At r' rest) (by
     rintro s ⟨i,r',hi,rfl,hat'⟩
     by_cases hlt:i<v.Items.length
     ·
      rw [aBk pL _ i hlt,List.append_assoc] at hat'
      have ht1:=aDo v.Items i hlt
      have ht2:=zM v.Items (i+1)
      obtain ⟨r3,f1,f2⟩:=hItem i hlt (k+1+lP (v.Items.take i)) r' _ (by omega) hat'
      refine .inl ⟨_,?_,⟨i+1,r3,by omega,rfl,f2⟩,by simp;omega⟩
      unfold eX
      simp only
      rw [cG,if_pos (by omega)]
      simp only [h4,Int.reduceEq,decide_false,cond_false,Option.bind_some,Fl.next]
      rw [f1]
      simp only [Option.bind_some]
      rw [sQ f2,mZ (by simp;omega),iW hlt (by omega),List.take_succ_eq_append_getElem hlt]
      simp only [Option.bind_some,decide_true,Bool.not_true,cond_false]
      rw [← List.take_succ_eq_append_getElem hlt,ht1,Nat.add_assoc]
     ·
      obtain rfl:i=v.Items.length:=by omega
      refine .inr ⟨.go (((k+1+lP v.Items:Nat):Int),r',v.Items,[]),?_,r',rfl,by simpa using hat'⟩
      unfold eX
      simp only
      rw [cG,if_neg (by omega),List.take_length]) ((0:Int),((k+1:Nat):Int),r2,[],[]) ⟨0,r2,by omega,by simp [lP],by simpa using b2⟩
   obtain ⟨r',rfl,hat'⟩:=g2
   rw [h4] at g1
   rw [h4,g1]
   simp only [Option.bind_some,Fl.next]
   have hfl:=hflo
   simp only [zI,h4,Int.reduceEq,if_true,if_false,Bool.and_eq_true,decide_eq_true_eq] at hfl
   have hks:v.Keys=[]:=by simpa using hfl.2
   have htx:v.Text=[]:=hfl.1.2
   have hin:v.Int=0:=hfl.1.1
   refine ⟨r',?_,hat'⟩
   rw [hz]
   obtain ⟨kd,i,t,l,ks⟩:=v
   simp only at h4 hks htx hin ⊢
   subst h4 hks htx hin
   rw [show k+1+lP l=k+(lP l+1) from by omega]
  ·
   have h5:v.Kind=5:=by omega
   have hlen:=l2 h5
   simp only [h5,Int.reduceEq,or_self,if_true,if_false,List.append_assoc] at a2
   obtain ⟨r2,b1,b2⟩:=sR (low:=-9223372036854775808) (high:=9223372036854775807) a2 okn okn.1 okn.2
   rw [b1]
   simp only [Option.bind_some]
   rw [c3,aFo _ b2]
   simp only [Option.bind_some,Bool.not_true,cond_false]
   have hfl:=hflo
   simp only [zI,h5,Int.reduceEq,if_true,if_false,Bool.and_eq_true,decide_eq_true_eq] at hfl
   have hzl:(v.Items.zip v.Keys).length=v.Items.length:=by simp [hlen]
   obtain ⟨X,g1,g2⟩:=rP (body:=eX (dU m) ((v.Items.length:Int),r2) v.Kind d)
    (fun s=>∃ (i:Nat) (r':aT),i≤v.Items.length∧s=((i:Int),((k+1+lP (v.Items.take i):Nat):Int),r',v.Items.take i,v.Keys.take i)∧At r' (((v.Items.zip v.Keys).drop i).flatMap (fun p=>tT p.2++pL p.1)++rest)) (fun s=>v.Items.length - s.1.toNat)
    (fun X=>∃ r',X=.go (((k+1+lP v.Items:Nat):Int),r',v.Items,v.Keys)∧At r' rest) (by
     rintro s ⟨i,r',hi,rfl,hat'⟩
     by_cases hlt:i<v.Items.length
     ·
      have hik:i<v.Keys.length:=by omega
      rw [aBk _ _ i (by omega),List.append_assoc,List.getElem_zip,List.append_assoc] at hat'
      have ht1:=aDo v.Items i hlt
      have ht2:=zM v.Items (i+1)
      obtain ⟨r3,e1,e2⟩:=aBd (most:=9223372036854775807) hat' (by have:=s2 _ (List.getElem_mem hik);simp only;omega)
      obtain ⟨r4,f1,f2⟩:=hItem i hlt (k+1+lP (v.Items.take i)) r3 _ (by omega) e2
      have hl4:(v.Keys[i].length:Int)≤4096:=by have:=s2 _ (List.getElem_mem hik);omega
      have hprev:(gd ((decide ((v.Keys[i].length:Int)≤(4096:Int)))==true&&((decide ((i:Int)=(0:Int)))==false)) (hG (v.Keys.take i) (IntKind.wrap .i64 ((i:Int) - (1:Int)))))=some (if h:i=0 then [] else v.Keys[i - 1]'(by omega)):=by
       by_cases hi0:i=0
       ·
        subst hi0;simp [gd];rfl
       ·
        have e:IntKind.i64.wrap ((i:Int) - 1)=((i - 1:Nat):Int):=by rw [w64 (by omega) (by omega)];omega
        have c2:decide ((i:Int)=0)=false:=by simp;omega
        rw [e,eW (l:=v.Keys.take i) (i:=i - 1) (by simp;omega),c2,decide_eq_true hl4]
        simp [gd,hi0]
      refine .inl ⟨((i+1:Nat),((k+1+lP (v.Items.take (i+1)):Nat):Int),r4,v.Items.take (i+1),v.Keys.take (i+1)),?_,⟨i+1,r4,by omega,rfl,f2⟩,by simp;omega⟩
      unfold eX
      simp only
      rw [cG,if_pos (by omega)]
      simp only [h5,decide_true,cond_true]
      rw [e1]
      simp only [Option.bind_some]
      rw [hprev]
      simp only [Option.bind_some]
      have hC:(cond (decide ((v.Keys[i].length:Int)≤(4096:Int))) (cond (decide ((i:Int)=(0:Int))) true (!(Op.bytesLess v.Keys[i] (if h:i=0 then [] else v.Keys[i - 1]'(by omega))||decide (v.Keys[i]=(if h:i=0 then [] else v.Keys[i - 1]'(by omega)))))) false)=true:=by
       rw [decide_eq_true hl4,aIF]
       by_cases hi0:i=0
       ·
        subst hi0;simp
       ·
        have c2:decide ((i:Int)=0)=false:=by simp;omega
        have hr:=aMb (l:=v.Keys) (by omega) hfl.2 (i - 1) (by omega)
        have e:i - 1+1=i:=by omega
        simp only [e] at hr
        rw [c2];simp [hi0,hr]
      rw [hC,aFo _ e2]
      simp only [Option.bind_some,Bool.not_true,cond_false]
      rw [mZ (by simp;omega)]
      simp only [Option.bind_some,Fl.next]
      rw [f1]
      simp only [Option.bind_some]
      rw [sQ f2,mZ (by simp;omega),iW hlt (by omega)]
      simp only [Option.bind_some,decide_true,Bool.not_true,cond_false]
      rw [← List.take_succ_eq_append_getElem hlt,← List.take_succ_eq_append_getElem hik,ht1,Nat.add_assoc]
     ·
      obtain rfl:i=v.Items.length:=by omega
      refine .inr ⟨.go (((k+1+lP v.Items:Nat):Int),r',v.Items,v.Keys),?_,r',rfl,?_⟩
      ·
       unfold eX
       simp only
       rw [cG,if_neg (by omega),List.take_length,← hlen,List.take_length]
      ·
       rw [List.drop_eq_nil_of_le (by omega)] at hat';simpa using hat') ((0:Int),((k+1:Nat):Int),r2,[],[]) ⟨0,r2,by omega,by simp [lP],by simpa using b2⟩
   obtain ⟨r',rfl,hat'⟩:=g2
   rw [h5] at g1
   rw [h5,g1]
   simp only [Option.bind_some,Fl.next]
   have htx:v.Text=[]:=hfl.1.1.2
   have hin:v.Int=0:=hfl.1.1.1
   refine ⟨r',?_,hat'⟩
   rw [hz]
   obtain ⟨kd,i,t,l,ks⟩:=v
   simp only at h5 htx hin ⊢
   subst h5 htx hin
   rw [show k+1+lP l=k+(lP l+1) from by omega]
end Go.Proofs.YtnigjppddilpcaaGreatDoor
namespace Go.Proofs.YtnigjppddilpcaaGreatDoor
open Go Abs
set_option linter.unusedSimpArgs false
set_option linter.unusedVariables false
theorem zG {r:aT}{n:Int}{rest:List UInt8} (h:At r (jI n++rest)) (hn:rB n):∃ r',fQ r=some (n,r')∧At r' rest:=by
 obtain ⟨r',h1,h2⟩:=sR (low:=-9223372036854775808) (high:=9223372036854775807) h hn hn.1 hn.2
 exact ⟨r',by unfold fQ;rw [h1];rfl,h2⟩
theorem aJb {r:aT}{o:bG}{rest:List UInt8} (h:At r (aD7 o++rest)) (ho:fH o) (hp:kU o=true):∃ r',jU r=some (o,r')∧At r' rest:=by
 obtain ⟨p1,p2,p3⟩:=xV hp
 obtain ⟨k0,k1,k2,k3,k4,k5,k6,k7,k8,k9⟩:=id ho
 have hok:rB (o.Fatal.length:Int):=⟨by omega,by omega⟩
 unfold aD7 at h
 simp only [List.append_assoc] at h
 obtain ⟨r0,a0,l0⟩:=aBd (most:=4096) h (by omega)
 obtain ⟨r1,a1,l1⟩:=zG l0 k1
 obtain ⟨r2,a2,l2⟩:=zG l1 k2
 obtain ⟨r3,a3,l3⟩:=zG l2 k3
 obtain ⟨r4,a4,l4⟩:=zG l3 k4
 obtain ⟨r5,a5,l5⟩:=zG l4 k5
 obtain ⟨r6,a6,l6⟩:=zG l5 k6
 obtain ⟨r7,a7,l7⟩:=zG l6 k7
 obtain ⟨r8,a8,l8⟩:=zG l7 k8
 obtain ⟨r9,a9,l9⟩:=zG l8 hok
 unfold jU
 rw [a0]
 simp only [Option.bind_some,nN]
 rw [a1]
 simp only [Option.bind_some]
 rw [a2]
 simp only [Option.bind_some]
 rw [a3]
 simp only [Option.bind_some]
 rw [a4]
 simp only [Option.bind_some]
 rw [a5]
 simp only [Option.bind_some]
 rw [a6]
 simp only [Option.bind_some]
 rw [a7]
 simp only [Option.bind_some]
 rw [a8]
 simp only [Option.bind_some]
 rw [a9]
 simp only [Option.bind_some]
 rw [sQ l9,rG]
 have hin:inB (o.Fatal.length:Int) 0 64=true:=by unfold inB;simp;omega
 rw [hin]
 simp only [Option.bind_some,decide_true,beq_self_eq_true,gd,if_true,Bool.not_true,cond_true,cond_false]
 obtain ⟨X,g1,g2⟩:=rP (body:=kE ((o.Fatal.length:Int),r9))
  (fun s=>∃ (i:Nat) (r':aT),i≤o.Fatal.length∧s=((i:Int),r',o.Fatal.take i)∧At r' ((o.Fatal.drop i).flatMap tT++rest)) (fun s=>o.Fatal.length - s.1.toNat)
  (fun X=>∃ r',X=(r',o.Fatal)∧At r' rest) (by
   rintro s ⟨i,r',hi,rfl,hat'⟩
   unfold kE
   by_cases hlt:i<o.Fatal.length
   ·
    rw [aBk tT _ i hlt,List.append_assoc] at hat'
    obtain ⟨r3,f1,f2⟩:=aBd (most:=4096) hat' (by have:=p3 _ (List.getElem_mem hlt);omega)
    refine .inl ⟨((i+1:Nat),r3,o.Fatal.take (i+1)),?_,⟨i+1,r3,by omega,rfl,f2⟩,by simp;omega⟩
    simp only
    rw [cG,if_pos (by omega),sQ hat']
    simp only [Option.bind_some,decide_true,cond_true,Fl.next]
    rw [f1]
    simp only [Option.bind_some]
    rw [mZ (by simp;omega),iW hlt (by omega),← List.take_succ_eq_append_getElem hlt]
    rfl
   ·
    obtain rfl:i=o.Fatal.length:=by omega
    refine .inr ⟨(r',o.Fatal),?_,r',rfl,by simpa using hat'⟩
    simp only
    rw [cG,if_neg (by omega),List.take_length];rfl) ((0:Int),r9,[]) ⟨0,r9,by omega,by simp,by simpa using l9⟩
 obtain ⟨r',rfl,hat'⟩:=g2
 rw [g1]
 simp only [Option.bind_some]
 have hokP:fH ⟨o.Queue,o.ToStart,o.ToClose,o.Total,o.Beat,o.First,o.Coef,o.Most,o.Attempts,o.Fatal⟩:=ho
 have hpP:kU ⟨o.Queue,o.ToStart,o.ToClose,o.Total,o.Beat,o.First,o.Coef,o.Most,o.Attempts,o.Fatal⟩=true:=hp
 rw [sQ hat',wM hokP,hpP]
 refine ⟨r',?_,hat'⟩
 simp only [Option.bind_some,decide_true,beq_self_eq_true,gd,if_true,Bool.not_true,cond_true,cond_false]
 rw [sQ hat']
 rfl
theorem aCV {r:aT}{v:aC}{rest:List UInt8} (h:At r (pL v++rest)) (hv:cL v) (hr:cH v=true) (hn:nsz v≤1200):∃ r',tW r=some (v,r')∧At r' rest:=by
 obtain ⟨q1,q2,q3⟩:=aCX hr
 obtain ⟨d1,d2⟩:=aK0 (sW v) v (Nat.le_refl _) (by omega)
 have hw:wth v=true:=by unfold cH at hr;simp only [Bool.and_eq_true] at hr;exact hr.1
 unfold wth at hw
 rw [d1,d2] at hw
 simp only [Bool.and_eq_true,decide_eq_true_eq] at hw
 obtain ⟨r',g1,g2⟩:=aKJ (2*sW v) v 1 0 r rest h hv q2 q1 (by omega) (by omega) (by omega) (Nat.le_refl _)
 have g1:=yV g1
 simp only [Int.natCast_zero] at g1
 refine ⟨r',?_,g2⟩
 unfold tW
 rw [sQ h]
 simp only [Option.bind_some,Int.reduceEq,decide_false,cond_false,Fl.next]
 rw [g1]
 simp only [Option.bind_some]
 rw [sQ g2]
 rfl
end Go.Proofs.YtnigjppddilpcaaGreatDoor
namespace Go.Proofs.YtnigjppddilpcaaGreatDoor
open Go Abs
set_option linter.unusedSimpArgs false
set_option linter.unusedVariables false
def aDj {α:Type} (p:α→Bool):List α→Nat→Option (Nat × α)
 | [],_=>none
 | x :: l,k=>if p x then some (k,x) else aDj p l (k+1)
def aHI {α τ:Type} (d:Nat→α→τ):Option (Nat × α)→Fl τ Unit
 | some (i,x)=>.done (d i x)
 | none=>.go ()
theorem aFh {α τ:Type}{l:List α}{p:α→Bool}{d:Nat→α→τ}{body:Int→Option (cI Int (Fl τ Unit))} (h:∀ (i:Nat) (hi:i<l.length),body (i:Int)=some (if p l[i] then .out (.done (d i l[i])) else .next ((i+1:Nat):Int)))
  (hout:body (l.length:Int)=some (.out (.go ()))):∀ (suf pre:List α),l=pre++suf→dR body (pre.length:Int)=some (aHI d (aDj p suf pre.length)):=by
 intro suf
 induction suf with
 | nil =>
  intro pre e
  rw [List.append_nil] at e
  rw [yM,← e,hout];rfl
 | cons x suf ih =>
  intro pre e
  have hi:pre.length<l.length:=by rw [e];simp
  have hx:l[pre.length]=x:=by simp [e]
  rw [yM,h _ hi,hx]
  cases hp:p x
  ·
   have:=ih (pre++[x]) (by simp [e])
   rw [List.length_append,List.length_singleton] at this
   simp only [aDj,hp,Bool.false_eq_true,if_false,Option.bind_some]
   exact this
  ·
   simp only [aDj,hp,if_true,Option.bind_some,aHI]
theorem aKm {α τ:Type}{l:List α} (p:α→Bool) (d:Nat→α→τ) {body:Int→Option (cI Int (Fl τ Unit))} (h:∀ (i:Nat) (hi:i<l.length),body (i:Int)=some (if p l[i] then .out (.done (d i l[i])) else .next ((i+1:Nat):Int)))
 (hout:body (l.length:Int)=some (.out (.go ()))):dR body (0:Int)=some (aHI d (aDj p l 0)):=aFh h hout l [] rfl
end Go.Proofs.YtnigjppddilpcaaGreatDoor
namespace Go.Proofs.YtnigjppddilpcaaGreatDoor
open Go Abs
set_option linter.unusedSimpArgs false
set_option linter.unusedVariables false
end Go.Proofs.YtnigjppddilpcaaGreatDoor
namespace Go.Proofs.YtnigjppddilpcaaGreatDoor
open Go Abs
set_option linter.unusedSimpArgs false
set_option linter.unusedVariables false
theorem aFk {s:List UInt8} (h:s.length≤140737488355328):vD s=some (qL s):=by unfold vD;rw [if_pos h]
end Go.Proofs.YtnigjppddilpcaaGreatDoor
namespace Go.Proofs.YtnigjppddilpcaaGreatDoor
open Go Abs
set_option linter.unusedSimpArgs false
set_option linter.unusedVariables false
theorem aDF {n l h:Int}:gQ n l h=some (inB n l h):=by unfold gQ inB;rw [Bool.cond_eq_ite];by_cases h1:l≤n <;> simp [h1]
theorem aBB {s:List UInt8} (hs:s.length≤9223372036854775807):iN s=some (oT s):=(show iN s=oN s from rfl).trans (aIR hs)
theorem aKi {v:aC} (hv:cL v):vB v=some (wT v):=by
 obtain ⟨k0,k1,k2,k3,k4⟩:=(dH v).1 hv
 unfold vB
 simp only [uJ]
 by_cases h2:v.Items.length=2
 ·
  obtain ⟨a,b,hab⟩:=aIU h2
  obtain ⟨_,_,_,hb,_⟩:=(dH b).1 (k3.2.2 b (by rw [hab];simp))
  have h0:hG v.Items (1:Int)=some b:=by rw [hab];rfl
  have hi2:wT v=(decide (v.Kind=4)&&decide (b.Kind=4)&&b.Items.all jE):=by unfold wT;rw [hab]
  have hC:dR (pQ b) (0:Int)=some (if b.Items.all jE then .go () else .done false):=by
   rw [iJ b.Items.length (fun i=>jE (b.Items.getD i default)) false (fun i hi=>?_) ?_,lA b.Items jE]
   ·
    unfold pQ
    rw [cG,if_neg (by omega)]
   ·
    unfold pQ
    rw [cG,if_pos (by omega),eW hi,Option.bind_some,iW hi hb.1]
    simp only [List.getD_eq_getElem?_getD,List.getElem?_eq_getElem hi,Option.getD_some,uJ,rI]
    generalize b.Items[i]=x
    by_cases h2:x.Items.length=2
    ·
     obtain ⟨c,d,hcd⟩:=aIU h2
     have hp:jE x=(decide (x.Kind=4)&&decide (c.Kind=3)&&jJ c.Text):=by unfold jE;rw [hcd]
     have h0:hG x.Items (0:Int)=some c:=by rw [hcd];rfl
     rw [h0,hp,h2]
     by_cases h1:x.Kind=4 <;> by_cases h3:c.Kind=3
     ·
      simp only [h1,h3,decide_true,Bool.and_self,Bool.not_true,cond_false,beq_self_eq_true,gd,if_true,Option.bind_some,Bool.true_and]
      cases jJ c.Text <;> rfl
     ·
      simp [h1,h3,gd]
     ·
      simp [h1,h3,gd]
     ·
      simp [h1,h3,gd]
    ·
     have:jE x=false:=aBi h2
     simp [this,h2,gd]
  rw [h0,h2,hi2]
  by_cases h1:v.Kind=4 <;> by_cases h3:b.Kind=4
  ·
   simp only [h1,h3,decide_true,Bool.and_self,Bool.not_true,cond_false,beq_self_eq_true,gd,if_true,Option.bind_some,Bool.true_and,hC]
   cases b.Items.all jE <;> rfl
  ·
   simp [h1,h3,gd]
  ·
   simp [h1,h3,gd]
  ·
   simp [h1,h3,gd]
 ·
  have:wT v=false:=aCD h2
  simp [this,h2,gd]
def dP (k:Int):Int:=if k=7 then 1 else if k=12 then 2 else if k=14 then 3 else if k=16 then 4 else if k=19 then 5 else if k=23 then 6 else if k=18 then 7 else if k=27 then 8 else if k=28 then 9 else if k=29 then 10 else if k=30 then 11 else if k=31 then 12 else if k=32 then 13 else if k=35 then 14 else 0
theorem aM5 {α:Type}{p:Prop} [Decidable p] {a b:α}:(if p then some a else some b)=some (if p then a else b):=by split <;> rfl
theorem aHB (k:Int):oE k=some (dP k):=by
 unfold oE dP
 simp only [cG,aM5]
theorem or3 {a b c:Bool}:(cond a (some a) (cond b (some b) (some c)))=some (a||b||c):=by cases a <;> cases b <;> rfl
theorem or2 {a b:Bool}:(cond a (some a) (some b))=some (a||b):=by cases a <;> rfl
theorem aBe {α:Type}{c:Bool}{a b:α}:cond c (some a) (some b)=some (cond c a b):=by cases c <;> rfl
def eE (k:Int):fZ :=
 cond (decide (k=1)) ⟨false,false,true,false,true,true,true⟩ (cond (decide (k=2)) ⟨false,false,true,false,false,false,false⟩ (cond (decide (k=3)||decide (k=4)||decide (k=6)) ⟨false,true,false,false,false,false,false⟩
 (cond (decide (k=5)) ⟨false,true,false,true,false,false,false⟩ (cond (decide (k=8)) ⟨true,true,true,false,false,false,false⟩ (cond (decide (k=9)||decide (k=13)||decide (k=21)) ⟨true,true,false,false,false,false,true⟩
 (cond (decide (k=10)||decide (k=22)) ⟨true,true,false,false,true,false,true⟩ (cond (decide (k=11)) ⟨true,true,false,true,false,false,false⟩ (cond (decide (k=15)||decide (k=24)) ⟨true,true,false,false,false,false,false⟩
 (cond (decide (k=17)) ⟨false,false,false,false,true,true,true⟩ (cond (decide (k=20)) ⟨true,true,false,false,false,true,false⟩ (cond (decide (k=25)) ⟨true,true,false,false,true,false,false⟩
 (cond (decide (k=26)) ⟨false,false,false,false,false,true,false⟩ (cond (decide (k=33)) ⟨false,false,false,false,true,false,false⟩ ⟨false,false,false,false,false,false,false⟩)))))))))))))
theorem aPp (k:Int):wQ k=some (eE k):=by
 unfold wQ eE
 simp only [or3,or2,Option.bind_some]
 simp only [aBe,Bool.or_assoc]
def fR (u:fZ) (e:bI):Bool :=
 (u.seq_||decide (e.Seq=0))&&(u.ref_||decide (e.Ref=0))&&(u.n_||decide (e.N=0))&&(u.code_||decide (e.Code=0))&&(u.name_||decide (e.Name=[]))&&(u.key_||decide (e.Key=[]))&&(u.data_||eF e.Data eR)&&xW e.Opts wA
theorem aMT {u:fZ}{e:bI} (h:dW e):nB u e=some (fR u e):=by
 have hd:cL e.Data:=h.2.2.2.2.2.2.2.2.2.1
 have ho:fH e.Opts:=h.2.2.2.2.2.2.2.2.2.2
 unfold nB fR
 rw [show (aC.mk 0 0 [] [] [])=eR from rfl,show (bG.mk [] 0 0 0 0 0 0 0 0 [])=wA from rfl,aBJ hd,aBv ho]
 simp only [Bool.cond_true_left,Bool.cond_false_right]
 generalize ((u.seq_||decide (e.Seq=0))&&(u.ref_||decide (e.Ref=0))&&(u.n_||decide (e.N=0))&&(u.code_||decide (e.Code=0))&&(u.name_||decide (e.Name=[]))&&(u.key_||decide (e.Key=[])))=b
 cases b
 ·
  simp [gd]
 ·
  cases u.data_
  ·
   cases eF e.Data eR <;> simp [gd]
  ·
   simp [gd]
noncomputable def qX (e:bI) (k:Int):Bool:=decide (e.Code=0)&&(if k=2∨k=4 then inB e.Ref 1 2000 else decide (e.Ref=0))&&fJ ⟨k,e.Seq,e.Name,e.Key,e.N,e.Data,e.Opts⟩
theorem aPB {e:bI} (h:dW e) {k:Int} (hk:rB k):tB ⟨k,e.Seq,e.Name,e.Key,e.N,e.Data,e.Opts⟩:=by
 obtain ⟨h1,h2,h3,h4,h5,h6,h7,h8,h9,h10,h11⟩:=h
 exact ⟨hk,h4,h8,h9,h6,h10,h11⟩
theorem aHC {e:bI} (h:dW e) {k:Int} (hk:rB k):oF e k=some (qX e k):=by
 unfold oF qX
 rw [aDf (aPB h hk),aDF]
 generalize fJ _=c
 generalize inB e.Ref 1 2000=r
 by_cases hc:e.Code=0 <;> by_cases h2:k=2 <;> by_cases h4:k=4 <;> by_cases hr:e.Ref=0 <;> simp [hc,h2,h4,hr,gd] <;> cases r <;> simp
def hZ (e:bI):Bool :=
 cond (decide (e.Kind=1)) (jJ e.Name&&oT e.Key&&inB e.N 0 4294967295&&wT e.Data) (cond (decide (e.Kind=2)) (decide (1≤e.N)) (cond (decide (e.Kind=5)) (inB e.Code 1 30) (cond (decide (e.Kind=8)) (inB e.N 1 1000) (cond (decide (e.Kind=11)) (inB e.Code 1 4)
 (cond (decide (e.Kind=10)||decide (e.Kind=22)||decide (e.Kind=25)) (decide ((e.Name.length:Int)≤4096)) (cond (decide (e.Kind=33)) (decide ((e.Name.length:Int)≤64)) (cond (decide (e.Kind=17)) (jJ e.Name&&oT e.Key) (cond (decide (e.Kind=26)) (oT e.Key) (cond (decide (e.Kind=20)) (qL e.Key).2 true)))))))))
theorem aP5 {a b:Bool}:((gd (a==true) (some b)).bind fun (x:Bool)=>some (cond a x false))=some (a&&b):=by cases a <;> rfl
theorem aGo {e:bI} (h:dW e):nA e=some (hZ e):=by
 have hd:cL e.Data:=h.2.2.2.2.2.2.2.2.2.1
 have hk:okS e.Key:=h.2.2.2.2.2.2.2.2.1
 unfold okS at hk
 unfold nA hZ
 simp only [rI,aBB (show e.Key.length≤9223372036854775807 by omega),aDF,aKi hd,aFk (show e.Key.length≤140737488355328 by omega),or3,Option.bind_some]
 generalize jJ e.Name=a
 generalize oT e.Key=b
 generalize inB e.N 0 4294967295=c
 generalize wT e.Data=d
 have:((gd (a==true) (some b)).bind fun x4=>(gd ((cond a x4 false)==true) (some c)).bind fun x6=>(gd ((cond (cond a x4 false) x6 false)==true) (some d)).bind fun x8=>some (cond (cond (cond a x4 false) x6 false) x8 false))=some (a&&b&&c&&d):=by
  cases a <;> cases b <;> cases c <;> rfl
 rw [this]
 simp only [aP5]
 simp only [aBe,Bool.or_assoc]
noncomputable def lS (e:bI):Bool :=
 inB e.Kind 1 35&&inB e.ID 0 2000&&inB e.Time 0 1099511627776&&cH e.Data&&(if dP e.Kind=0 then fR (eE e.Kind) e&&(!(eE e.Kind).seq_||inB e.Seq 1 2000)&&(!(eE e.Kind).ref_||inB e.Ref 1 2000)&&hZ e else qX e (dP e.Kind))
theorem aG5 (k:Int):rB (dP k):=by
 unfold dP rB
 repeat' split
 all_goals omega
theorem aAD {e:bI} (h:dW e):pP e=some (lS e):=by
 have hd:cL e.Data:=h.2.2.2.2.2.2.2.2.2.1
 unfold pP lS
 simp only [aDF,aA3 hd,aHB,aPp,aMT h,aHC h (aG5 _),aGo h,Option.bind_some]
 cases inB e.Kind 1 35
 ·
  simp [gd]
 cases inB e.ID 0 2000
 ·
  simp [gd]
 cases inB e.Time 0 1099511627776
 ·
  simp [gd]
 cases cH e.Data
 ·
  simp [gd]
 simp only [Bool.not_true,cond_false,beq_self_eq_true,gd,if_true,Option.bind_some,Bool.true_and,uO]
 split
 ·
  rename_i h0
  generalize eE e.Kind=u
  cases fR u e
  ·
   simp
  ·
   cases u.seq_ <;> cases u.ref_ <;> cases inB e.Seq 1 2000 <;> cases inB e.Ref 1 2000 <;> simp
 ·
  simp
end Go.Proofs.YtnigjppddilpcaaGreatDoor
namespace Go.Proofs.YtnigjppddilpcaaGreatDoor
open Go Abs
set_option linter.unusedSimpArgs false
set_option linter.unusedVariables false
def wf {α:Type} (f:Int→α→Int):List α→Int→Int
 | [],a=>a
 | x :: l,a=>if 0≤a then wf f l (f a x) else a
end Go.Proofs.YtnigjppddilpcaaGreatDoor
namespace Go.Proofs.YtnigjppddilpcaaGreatDoor
open Go Abs
set_option linter.unusedSimpArgs false
set_option linter.unusedVariables false
set_option maxRecDepth 20000
theorem aIK (k:Int):0≤dP k∧dP k≤14:=by
 unfold dP
 repeat' split
 all_goals omega
def aKb:List Int:=[7,12,14,16,19,23,18,27,28,29,30,31,32,35]
theorem aBF (k:Int):oO k=some (dP k):=by
 unfold oO
 rw [show tP=some aKb from rfl,Option.bind_some]
 rw [aKm (l:=aKb) (fun x=>decide (x=k)) (fun i _=>(i:Int)+1) (fun i hi=>?_) ?_,Option.bind_some]
 ·
  unfold dP
  by_cases h7:k=7
  ·
   subst h7;rfl
  by_cases h12:k=12
  ·
   subst h12;rfl
  by_cases h14:k=14
  ·
   subst h14;rfl
  by_cases h16:k=16
  ·
   subst h16;rfl
  by_cases h19:k=19
  ·
   subst h19;rfl
  by_cases h23:k=23
  ·
   subst h23;rfl
  by_cases h18:k=18
  ·
   subst h18;rfl
  by_cases h27:k=27
  ·
   subst h27;rfl
  by_cases h28:k=28
  ·
   subst h28;rfl
  by_cases h29:k=29
  ·
   subst h29;rfl
  by_cases h30:k=30
  ·
   subst h30;rfl
  by_cases h31:k=31
  ·
   subst h31;rfl
  by_cases h32:k=32
  ·
   subst h32;rfl
  by_cases h35:k=35
  ·
   subst h35;rfl
  simp [aKb,aDj,aHI,Fl.next,h7,h12,h14,h16,h19,h23,h18,h27,h28,h29,h30,h31,h32,h35,Ne.symm h7,Ne.symm h12,Ne.symm h14,Ne.symm h16,Ne.symm h19,Ne.symm h23,Ne.symm h18,Ne.symm h27,Ne.symm h28,Ne.symm h29,Ne.symm h30,Ne.symm h31,Ne.symm h32,Ne.symm h35]
 ·
  unfold qR
  rw [cG,if_neg (by omega)]
 ·
  have h:i<14:=hi
  unfold qR
  rw [cG,if_pos (by omega),eW hi,Option.bind_some,iW hi (by show (14:Nat)≤_;omega)]
  simp only [decide_eq_true_eq,cG]
  split <;> rfl
theorem aEb (k:Int):oI k=some (!decide (dP k=0)):=by
 unfold oI
 rw [aBF,Option.bind_some]
 have:=(aIK k).1
 by_cases h:dP k=0
 ·
  rw [h];rfl
 ·
  have h2:0<dP k:=by omega
  simp [h,h2]
def aK2 (a b:bI):Bool:=decide (a.ID=b.ID)&&decide (a.Kind=b.Kind)&&decide (a.Time=b.Time)&&decide (a.Seq=b.Seq)&&decide (a.Ref=b.Ref)&&decide (a.N=b.N)&&decide (a.Code=b.Code)&&decide (a.Name=b.Name)&&decide (a.Key=b.Key)&&eF a.Data b.Data&&xW a.Opts b.Opts
theorem aMg {a b c:Bool}:((gd (a==true) (some b)).bind fun (x1:Bool)=>(gd ((cond a x1 false)==true) (some c)).bind fun (x3:Bool)=>some (cond (cond a x1 false) x3 false))=some (a&&b&&c):=by cases a <;> cases b <;> rfl
theorem zT {a b:bI} (h:dW a):qD a b=some (aK2 a b):=by
 have hd:cL a.Data:=h.2.2.2.2.2.2.2.2.2.1
 have ho:fH a.Opts:=h.2.2.2.2.2.2.2.2.2.2
 unfold qD aK2
 rw [aFG hd,uL ho,aMg]
 simp only [Bool.cond_false_right]
theorem aBU (a:bI):aK2 a a=true:=by unfold aK2;simp [aFW,aFt]
end Go.Proofs.YtnigjppddilpcaaGreatDoor
namespace Go.Proofs.YtnigjppddilpcaaGreatDoor
open Go Abs
set_option linter.unusedSimpArgs false
set_option linter.unusedVariables false
theorem aDg {u:Nat} (h:u<10):Lib.decDigits u=[UInt8.ofNat (48+u)]:=by rw [Lib.decDigits];simp [h]
theorem aHF {u:Nat} (h:¬u<10):Lib.decDigits u=Lib.decDigits (u / 10)++[UInt8.ofNat (48+u % 10)]:=by rw [Lib.decDigits];simp [h]
theorem aEs:∀ (k u:Nat),u<10 ^ (k+1)→(Lib.decDigits u).length≤k+1
 | 0,u,h=>by rw [aDg (by omega)];simp
 | k+1,u,h=>by
  by_cases hu:u<10
  ·
   rw [aDg hu];simp
  ·
   rw [aHF hu]
   have:=aEs k (u / 10) (by rw [Nat.pow_succ] at h;omega)
   simp;omega
end Go.Proofs.YtnigjppddilpcaaGreatDoor
namespace Go.Proofs.YtnigjppddilpcaaGreatDoor
open Go Abs
set_option linter.unusedSimpArgs false
set_option linter.unusedVariables false
theorem aKe:∀ (n u:Nat),u<10 ^ (n+1)→u≤9223372036854775808→n≤30→gK (n+1) (-(u:Int))=some (Lib.decDigits u):=by
 intro n
 induction n with
 | zero =>
  intro u h hb _
  have hu:u<10:=by omega
  rw [gK]
  have e1:IntKind.u8.wrap (IntKind.i64.wrap (48+IntKind.i64.wrap (0 - (-(u:Int)).tmod 10)))=((48+u:Nat):Int):=by
   have:(-(u:Int)).tmod 10=-(u:Int):=by rw [Int.neg_tmod,Int.tmod_eq_emod_of_nonneg (by omega)];omega
   rw [this,IntKind.wrap_u8,IntKind.wrap_i64,IntKind.wrap_i64];omega
  rw [e1,aCx (by omega),Option.bind_some,cG,if_pos (by omega),aDg hu]
 | succ n ih =>
  intro u h hb hn
  rw [gK]
  have e1:IntKind.u8.wrap (IntKind.i64.wrap (48+IntKind.i64.wrap (0 - (-(u:Int)).tmod 10)))=((48+u % 10:Nat):Int):=by
   have:(-(u:Int)).tmod 10=-((u % 10:Nat):Int):=by rw [Int.neg_tmod,Int.tmod_eq_emod_of_nonneg (by omega)];omega
   rw [this,IntKind.wrap_u8,IntKind.wrap_i64,IntKind.wrap_i64];omega
  rw [e1,aCx (by omega),Option.bind_some,cG]
  by_cases hu:u<10
  ·
   rw [if_pos (by omega),aDg hu,Nat.mod_eq_of_lt hu]
  ·
   rw [if_neg (by omega)]
   have e2:IntKind.i64.wrap ((-(u:Int)).tdiv 10)=-((u / 10:Nat):Int):=by
    have:(-(u:Int)).tdiv 10=-((u / 10:Nat):Int):=by rw [Int.neg_tdiv,Int.tdiv_eq_ediv_of_nonneg (by omega)];omega
    rw [this,w64 (by omega) (by omega)]
   have hl:=aEs n (u / 10) (by rw [Nat.pow_succ] at h;omega)
   rw [e2,ih (u / 10) (by rw [Nat.pow_succ] at h;omega) (by omega) (by omega),Option.bind_some,aMN (by simp;omega),Option.bind_some,aHF hu]
theorem aLS {u:Nat} (h:u≤9223372036854775808):qQ (-(u:Int))=some (Lib.decDigits u):=aDw (aKe 19 u (by omega) h (by omega))
theorem aDX {n:Int} (h:rB n):yR n=some (aAq n):=by
 unfold yR aAq
 rw [cG]
 by_cases h1:n<1
 ·
  rw [if_pos h1,if_pos h1]
 ·
  rw [if_neg h1,if_neg h1]
  obtain ⟨h2,h3⟩:=h
  unfold uW
  obtain ⟨u,rfl⟩:∃ u:Nat,n=(u:Int):=⟨n.toNat,by omega⟩
  rw [cG,if_neg (by omega),show (0:Int) - (u:Int)=-(u:Int) by omega,w64 (by omega) (by omega),aLS (by omega),Option.bind_some,Option.bind_some]
  have hl:=aEs 18 u (by omega)
  rw [aMN (by simp;omega),Option.bind_some,Lib.itoa_nonneg];rfl
def rdS (a:Nat) (c:UInt8):Nat:=10*a+(c.toNat - 48)
def rd (a:Nat) (l:List UInt8):Nat:=l.foldl rdS a
theorem aCN (c:UInt8) (l:List UInt8) (a:Nat):rd a (c :: l)=rd (rdS a c) l:=List.foldl_cons ..
theorem aDt (a:Nat):rd a []=a:=List.foldl_nil ..
theorem aDs (l m:List UInt8) (a:Nat):rd a (l++m)=rd (rd a l) m:=List.foldl_append ..
theorem aQl (a:Nat) (c:UInt8):a≤rdS a c:=by unfold rdS;omega
theorem aNt:∀ (l:List UInt8) (a:Nat),a≤rd a l
 | [],a=>by rw [aDt];exact Nat.le_refl a
 | c :: l,a=>by rw [aCN];exact Nat.le_trans (aQl a c) (aNt l (rdS a c))
def dig (c:UInt8):Prop:=48≤c.toNat∧c.toNat≤57
theorem aMR {u:Nat} (h:u<10):dig (UInt8.ofNat (48+u))∧(UInt8.ofNat (48+u)).toNat - 48=u:=by
 have:(UInt8.ofNat (48+u)).toNat=48+u:=by simp;omega
 unfold dig;omega
theorem aKu:∀ u,rd 0 (Lib.decDigits u)=u∧∀ c∈Lib.decDigits u,dig c:=by
 intro u
 induction u using Nat.strongRecOn with
 | _ u ih =>
  by_cases h:u<10
  ·
   obtain ⟨h1,h2⟩:=aMR h
   rw [aDg h,aCN,aDt]
   refine ⟨?_,by simp only [List.mem_singleton];rintro c rfl;exact h1⟩
   unfold rdS
   omega
  ·
   obtain ⟨h1,h2⟩:=aMR (u:=u % 10) (by omega)
   obtain ⟨i1,i2⟩:=ih (u / 10) (by omega)
   rw [aHF h,aDs,i1,aCN,aDt]
   refine ⟨?_,?_⟩
   ·
    unfold rdS
    omega
   ·
    intro c hc
    rcases List.mem_append.1 hc with hc | hc
    ·
     exact i2 c hc
    ·
     rw [List.mem_singleton.1 hc];exact h1
theorem aPY (u:Nat):Lib.decDigits u≠[]:=by
 by_cases h:u<10
 ·
  rw [aDg h];simp
 ·
  rw [aHF h];simp
theorem aNm:∀ (l:List UInt8) (a:Nat),(∀ c∈l,dig c)→rd a l<18446744073709551616→Lib.parseUint10 a l=.ok (rd a l):=by
 intro l
 induction l with
 | nil=>intro a _ _;rw [aDt,Lib.parseUint10]
 | cons c l ih =>
  intro a hd hr
  have hc:=hd c (by simp)
  have hge:=aNt l (rdS a c)
  rw [aCN] at hr ⊢
  unfold dig at hc
  have hs:rdS a c=10*a+(c.toNat - 48):=rfl
  rw [Lib.parseUint10,if_pos hc,if_neg (by omega),Nat.mul_comm a 10,if_neg (by omega),← hs]
  exact ih _ (fun x hx=>hd x (by simp [hx])) hr
theorem aMI {u:Nat} (h:u≤9223372036854775807):Lib.atoiAll (Lib.decDigits u)=.ok (u:Int):=by
 obtain ⟨h1,h2⟩:=aKu u
 have hp:=aNm (Lib.decDigits u) 0 h2 (by omega)
 rw [h1] at hp
 have hne:=aPY u
 generalize Lib.decDigits u=l at *
 cases l with
 | nil=>exact absurd rfl hne
 | cons c r =>
  have hc:=h2 c (by simp)
  unfold dig at hc
  unfold Lib.atoiAll
  simp only
  rw [if_neg (by omega)]
  unfold Lib.parseMag
  rw [if_neg (by simp),hp]
  simp only
  rw [if_neg (by omega),if_neg (by omega),if_neg (by omega)]
theorem aJo {v:Int} (h:1≤v):aAq v=114 :: Lib.decDigits v.toNat:=by
 unfold aAq
 rw [if_neg (by omega)]
 obtain ⟨u,rfl⟩:∃ u:Nat,v=(u:Int):=⟨v.toNat,by omega⟩
 rw [Lib.itoa_nonneg];rfl
theorem aI6 {v:Int} (h1:1≤v) (h2:v≤9223372036854775807):qL (aAq v)=(v,true):=by
 unfold qL
 have hr:=aJo h1
 have hp:Lib.hasPrefix (aAq v) [114]=true:=by rw [hr];simp [Lib.hasPrefix]
 have ht:Lib.trimPrefix (aAq v) [114]=Lib.decDigits v.toNat:=by unfold Lib.trimPrefix;rw [if_pos hp,hr];rfl
 rw [if_pos hp,ht,aMI (by omega)]
 simp only
 rw [show ((v.toNat:Nat):Int)=v by omega,if_pos ⟨rfl,h1⟩]
theorem aI5 (s:List UInt8):(∃ v:Int,1≤v∧v≤9223372036854775807∧aAq v=s∧qL s=(v,true))∨((∀ v:Int,1≤v→v≤9223372036854775807→aAq v≠s)∧qL s=(0,false)):=by
 by_cases h:∃ v:Int,1≤v∧v≤9223372036854775807∧aAq v=s
 ·
  obtain ⟨v,h1,h2,rfl⟩:=h
  exact .inl ⟨v,h1,h2,rfl,aI6 h1 h2⟩
 ·
  refine .inr ⟨fun v h1 h2 h3=>h ⟨v,h1,h2,h3⟩,?_⟩
  unfold qL
  split
  ·
   split
   ·
    rename_i v hv
    have hb:=aIA hv
    rw [if_neg fun hh=>h ⟨v,hh.2,hb.2,hh.1⟩]
   ·
    rfl
  ·
   rfl
theorem aQM {x:Int} (h1:-9223372036854775808≤x) (h2:x≤9223372036854775807):(x+9223372036854775808) % 18446744073709551616 - 9223372036854775808=x:=by omega
theorem aQN {x:Int} (h1:-9223372036854775808≤x - 48) (h2:x - 48≤9223372036854775807):((x+9223372036854775808) % 18446744073709551616 - 9223372036854775808 - 48+9223372036854775808) % 18446744073709551616 - 9223372036854775808=x - 48:=by omega
theorem aNu (c:UInt8) (l:List UInt8):rd 0 (((c :: l).take 1).drop 1)=0:=by
 rw [List.take_succ_cons,List.take_zero,List.drop_succ_cons,List.drop_zero,aDt]
theorem aMS (c:UInt8) (l:List UInt8):(c :: l).drop 1=l:=by rw [List.drop_succ_cons,List.drop_zero]
theorem aFE {s:List UInt8} (h:s.length≤140737488355328):∃ x,dR (rT s) ((0:Int),(1:Int))=some x∧rB x∧∀ u:Nat,1≤u→u≤9223372036854775807→s=114 :: Lib.decDigits u→x=(u:Int):=by
 refine rP (fun t=>∃ i:Nat,t.2=(i:Int)∧1≤i∧rB t.1∧∀ u:Nat,1≤u→u≤9223372036854775807→s=114 :: Lib.decDigits u→i≤s.length∧t.1=(rd 0 ((s.take i).drop 1):Int)) (fun t=>s.length - t.2.toNat) _ ?_ _ ⟨1,rfl,by omega,by simp [rB],fun u _ _ hs=>⟨by rw [hs,List.length_cons];omega,by rw [hs,aNu];rfl⟩⟩
 rintro ⟨x,i0⟩ ⟨i,hi0,h1,hx,hu⟩
 simp only at hi0 hx hu
 subst hi0
 unfold rT
 by_cases hc:i<s.length∧s.length≤20
 ·
  have e:(cond (decide ((i:Int)<(s.length:Int))) (decide ((s.length:Int)≤20)) false)=true:=by
   have a1:(i:Int)<s.length:=by omega
   have a2:(s.length:Int)≤20:=by omega
   simp [a1,a2]
  simp only
  rw [e,cond_true,eW hc.1,Option.bind_some,iW hc.1 (by omega)]
  refine .inl ⟨_,rfl,⟨i+1,rfl,by omega,?_,fun u hu1 hu2 hs=>⟨hc.1,?_⟩⟩,by simp;omega⟩
  ·
   simp only [rB,IntKind.wrap_i64];omega
  ·
   obtain ⟨hi,hxe⟩:=hu u hu1 hu2 hs
   simp only
   have hr:=aKu u
   have hsplit:(s.take (i+1)).drop 1=(s.take i).drop 1++[s[i]]:=by
    rw [List.take_succ_eq_append_getElem hc.1,List.drop_append_of_le_length (by simp;omega)]
   have hd:dig s[i]:=by
    refine hr.2 _ ?_
    have:s.drop 1=Lib.decDigits u:=by rw [hs,aMS]
    rw [← this]
    have:s[i]=(s.drop 1)[i - 1]'(by simp;omega):=by simp only [List.getElem_drop];congr 1;omega
    rw [this];exact List.getElem_mem _
   have hle:rd 0 ((s.take (i+1)).drop 1)≤u:=by
    have h2:s.drop 1=(s.take (i+1)).drop 1++s.drop (i+1):=by
     conv=>lhs;rw [← List.take_append_drop (i+1) s,List.drop_append_of_le_length (by simp;omega)]
    have h3:rd 0 (s.drop 1)=u:=by rw [hs,aMS];exact hr.1
    rw [h2,aDs] at h3
    have:=aNt (s.drop (i+1)) (rd 0 ((s.take (i+1)).drop 1))
    omega
   rw [hsplit,aDs] at hle ⊢
   rw [aCN,aDt] at hle ⊢
   unfold dig at hd
   have hs:rdS (rd 0 ((s.take i).drop 1)) s[i]=10*rd 0 ((s.take i).drop 1)+(s[i].toNat - 48):=rfl
   rw [hs] at hle ⊢
   rw [hxe]
   generalize rd 0 ((s.take i).drop 1)=R at *
   generalize s[i]=c at *
   clear hs hsplit
   simp only [IntKind.wrap_i64]
   generalize c.toNat=d at *
   rw [aQM (x:=10*(R:Int)) (by omega) (by omega),aQM (x:=(d:Int)) (by omega) (by omega),aQN (x:=10*(R:Int)+(d:Int)) (by omega) (by omega)]
   omega
 ·
  have e:(cond (decide ((i:Int)<(s.length:Int))) (decide ((s.length:Int)≤20)) false)=false:=by
   by_cases a1:(i:Int)<s.length
   ·
    have a2:¬(s.length:Int)≤20:=by omega
    simp [a1,a2]
   ·
    simp [a1]
  simp only
  rw [e,cond_false]
  refine .inr ⟨x,rfl,hx,fun u hu1 hu2 hs=>?_⟩
  obtain ⟨hi,hxe⟩:=hu u hu1 hu2 hs
  have hl:=aEs 18 u (by omega)
  have hsl:s.length=(Lib.decDigits u).length+1:=by rw [hs,List.length_cons]
  have:i=s.length:=by omega
  rw [hxe,this,List.take_length]
  have h3:s.drop 1=Lib.decDigits u:=by rw [hs,aMS]
  rw [h3,(aKu u).1]
theorem aHX {s:List UInt8} (h:s.length≤140737488355328):tL s=some (qL s):=by
 obtain ⟨x,hx,hok,hu⟩:=aFE h
 unfold tL
 rw [hx,Option.bind_some]
 rcases aI5 s with ⟨v,h1,h2,h3,h4⟩ | ⟨h3,h4⟩
 ·
  have hxv:x=v:=by
   have:=hu v.toNat (by omega) (by omega) (by rw [← h3,aJo h1])
   omega
  subst hxv
  rw [aDX hok,h4,h3]
  have:¬x<1:=by omega
  simp [this,gd]
 ·
  rw [aDX hok,h4]
  by_cases h5:x<1
  ·
   simp [h5,gd]
  ·
   have:=h3 x (by omega) hok.2
   simp [h5,gd,this]
end Go.Proofs.YtnigjppddilpcaaGreatDoor

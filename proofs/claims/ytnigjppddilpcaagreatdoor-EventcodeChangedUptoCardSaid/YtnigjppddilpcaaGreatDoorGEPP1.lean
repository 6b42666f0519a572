/- Plain laws: what the functions compute, with no program in sight. -/
import Derived.Test.YtnigjppddilpcaaGreatDoorGEPP0
import Derived.Test.YtnigjppddilpcaaGreatDoorGEF5
import Derived.Test.YtnigjppddilpcaaGreatDoorGEF7
import Derived.Test.YtnigjppddilpcaaGreatDoorGEF0
import Derived.Test.YtnigjppddilpcaaGreatDoorGEF2
import Derived.Test.YtnigjppddilpcaaGreatDoorGEF9
import Derived.Test.YtnigjppddilpcaaGreatDoorGEF3
import Derived.Test.YtnigjppddilpcaaGreatDoorGEF6
import Derived.Test.YtnigjppddilpcaaGreatDoorGEF1
import Derived.Test.YtnigjppddilpcaaGreatDoorGEF14
import Derived.Test.YtnigjppddilpcaaGreatDoorGEF16
namespace Go.Proofs.YtnigjppddilpcaaGreatDoor
open Go Abs
set_option linter.unusedSimpArgs false
set_option linter.unusedVariables false
def At (r:aG) (rest:List UInt8):Prop:=∃ (b:List UInt8) (a:Nat),b.length≤1000000000∧a≤b.length∧r=⟨b,a,0,true⟩∧b.drop a=rest
theorem pG {r:aG}{l:List UInt8} (h:At r l):dS r=some 0:=by
 obtain ⟨b,a,_,_,rfl,_⟩:=h
 rfl
theorem aKD {b:List UInt8} (h:b.length≤1000000000):∃ r,pP b=some r∧At r b:=⟨_,aEY (by omega),b,0,h,by omega,rfl,rfl⟩
theorem oJ {r:aG}{n low high:Int}{rest:List UInt8} (h:At r (jJ n++rest)) (hn:oG n) (h1:low≤n) (h2:n≤high):∃ r',dG low high r=some (n,r')∧At r' rest:=by
 obtain ⟨b,a,hb,ha,rfl,hd⟩:=h
 have hr:=aDU (low:=low) (high:=high) rest hn.1 hn.2
 rw [if_neg (by omega)] at hr
 have hlen:(jJ n).length≤b.length - a:=by
  have:=congrArg List.length hd
  simp only [List.length_drop,List.length_append] at this
  omega
 refine ⟨_,by rw [aJC ha hb,hd];unfold jJ;rw [hr],b,a+(jJ n).length,hb,by omega,?_,?_⟩
 ·
  unfold vR
  rw [hd];unfold jJ;rw [hr];rfl
 ·
  rw [← List.drop_drop,hd,List.drop_left]
theorem xE {r:aG}{s:List UInt8}{most:Int}{rest:List UInt8} (h:At r (oH s++rest)) (hs:(s.length:Int)≤most):∃ r',fF most r=some (s,r')∧At r' rest:=by
 obtain ⟨b,a,hb,ha,rfl,hd⟩:=h
 have hl:=congrArg List.length hd
 simp only [List.length_drop,List.length_append,oH] at hl
 have hr:=aDU (low:=0) (high:=most) (s++rest) (n:=(s.length:Int)) (by omega) (by omega)
 rw [if_neg (by omega)] at hr
 have hd':b.drop a=kB (zz s.length)++(s++rest):=by rw [hd,oH,List.append_assoc]
 have hd2:b.drop (a+(kB (zz s.length)).length)=s++rest:=by rw [← List.drop_drop,hd',List.drop_left]
 refine ⟨⟨b,(a+(kB (zz s.length)).length+s.length:Nat),0,true⟩,?_,b,a+(kB (zz s.length)).length+s.length,hb,by omega,rfl,?_⟩
 ·
  rw [aLo ha hb]
  unfold aJ3
  rw [hd',hr]
  simp only [ne_eq,not_true_eq_false,if_false]
  rw [if_neg (by omega),hd2]
  simp
 ·
  rw [← List.drop_drop,hd2,List.drop_left]
theorem aIF {l:List (List UInt8)} (h:l.length≤9223372036854775807) (hr:aBp l=true) (i:Nat) (hi:i+1<l.length):Op.bytesLess l[i] l[i+1]=true:=aCD.1 hr i hi
theorem aKX:∀ (n:Nat) (v:aD),qW v≤n→qW v≤nsz v:=by
 intro n
 induction n with
 | zero=>intro v h;have:=gV v;omega
 | succ n ih =>
  intro v h
  have hh:=gV v
  rw [hh,aCm]
  have key:∀ l:List aD,(∀ x∈l,qW x≤nsz x)→aAL l≤jB l:=by
   intro l
   induction l with
   | nil=>simp [aAL,jB]
   | cons x l ihl =>
    intro hl
    have h1:=hl x (by simp)
    have h2:=ihl (fun y hy=>hl y (by simp [hy]))
    simp only [aAL,jB];omega
  have:=key v.Items (fun x hx=>ih x (by have:=iZ hx;omega))
  omega
theorem aFM:∀ {l:List aD}{x:aD},x∈l→nsz x≤jB l
 | [],x,h=>by simp at h
 | y :: l,x,h=>by
  simp only [jB]
  rcases List.mem_cons.1 h with rfl | h
  ·
   omega
  ·
   have:=aFM h;omega
theorem aHt:∀ (n:Nat) (v:aD),qW v≤n→nsz v≤1000000→dep v=(qW v:Int)∧siz v=(nsz v:Int):=by
 intro n
 induction n with
 | zero=>intro v h;have:=gV v;omega
 | succ n ih =>
  intro v h hn
  have hh:=gV v
  have hz:=aCm v
  have hm:=aKX _ v (Nat.le_refl _)
  have k1:∀ (l:List aD) (a:Nat),(∀ x∈l,dep x=(qW x:Int))→l.foldl (fun a x=>if dep x > a then dep x else a) (a:Int)=((max a (aAL l):Nat):Int):=by
   intro l
   induction l with
   | nil=>intro a _;simp [aAL]
   | cons x l ihl =>
    intro a hl
    have h1:=hl x (by simp)
    simp only [List.foldl_cons,h1]
    have e:(if ((qW x:Nat):Int) > ((a:Nat):Int) then ((qW x:Nat):Int) else ((a:Nat):Int))=((max a (qW x):Nat):Int):=by split <;> omega
    rw [e,ihl _ (fun y hy=>hl y (by simp [hy]))]
    simp only [aAL]
    omega
  have k2:∀ (l:List aD) (a:Nat),(∀ x∈l,siz x=(nsz x:Int))→a+jB l≤2000000→l.foldl (fun a x=>IntKind.i64.wrap (a+siz x)) (a:Int)=((a+jB l:Nat):Int):=by
   intro l
   induction l with
   | nil=>intro a _ _;simp [jB]
   | cons x l ihl =>
    intro a hl ha
    simp only [jB] at ha
    have h1:=hl x (by simp)
    simp only [List.foldl_cons,h1]
    rw [w64 (by omega) (by omega),show ((a:Nat):Int)+(nsz x:Int)=((a+nsz x:Nat):Int) by omega,ihl _ (fun y hy=>hl y (by simp [hy])) (by omega)]
    simp only [jB]
    omega
  have hi:∀ x∈v.Items,dep x=(qW x:Int)∧siz x=(nsz x:Int):=fun x hx=>ih x (by have:=iZ hx;omega) (by have:=aFM hx;omega)
  constructor
  ·
   rw [aJo]
   have:=k1 v.Items 0 (fun x hx=>(hi x hx).1)
   simp only [Int.natCast_zero] at this
   rw [this,w64 (by omega) (by omega)]
   omega
  ·
   rw [aKc]
   have:=k2 v.Items 1 (fun x hx=>(hi x hx).2) (by omega)
   rw [show (1:Int)=((1:Nat):Int) from rfl,this]
   omega
theorem aCo {r:aG}{l:List UInt8} (k:Int) (h:At r l):fS true k r=some (true,r):=by
 unfold fS
 rw [pG h]
 simp [pG h]
theorem xN {α:Type} (f:α→List UInt8) (l:List α) (i:Nat) (hi:i<l.length):(l.drop i).flatMap f=f l[i]++(l.drop (i+1)).flatMap f:=by
 rw [List.drop_eq_getElem_cons hi,List.flatMap_cons]
theorem aAN:∀ (l:List aD) (i:Nat) (hi:i<l.length),jB (l.take (i+1))=jB (l.take i)+nsz l[i]
 | [],i,hi=>by simp at hi
 | x :: l,0,hi=>by simp [jB]
 | x :: l,i+1,hi=>by
  have:=aAN l i (by simpa using hi)
  simp only [List.take_succ_cons,jB,List.getElem_cons_succ] at this ⊢
  omega
theorem uE:∀ (l:List aD) (i:Nat),jB (l.take i)≤jB l
 | [],i=>by simp
 | x :: l,0=>by simp [jB]
 | x :: l,i+1=>by have:=uE l i;simp only [List.take_succ_cons,jB];omega
theorem aHf:∀ (n:Nat) (v:aD) (d:Int) (k:Nat) (r:aG) (rest:List UInt8),At r (lM v++rest)→cL v→sH false v=true→shr v=true→0≤d→(qW v:Int)+d≤17→k+nsz v≤1000→2*qW v≤n →
  ∃ r',cY n d k r=some (v,((k+nsz v:Nat):Int),r')∧At r' rest:=by
 intro n
 induction n using Nat.strongRecOn with
 | _ n ih =>
  intro v d k r rest hat hv hf hs hd0 hd hk hn
  have hh:=gV v
  have hz:=aCm v
  obtain ⟨m,rfl⟩:∃ m,n=m+2:=⟨n - 2,by omega⟩
  obtain ⟨q0,q1,q2,q3,q4⟩:=(dW v).1 hv
  have hft:=hf
  rw [aLM (qW v) v (Nat.le_refl _)] at hft
  simp only [Bool.and_eq_true,Bool.not_eq_true'] at hft
  obtain ⟨l1,l2,l3⟩:=aB9 hft.1
  have hfi:∀ x∈v.Items,sH false x=true:=(aB9 hf).2.2
  have hs':=hs
  rw [aKb] at hs'
  simp only [Bool.and_eq_true,Bool.not_eq_true',List.all_eq_true,List.any_eq_false,kK,decide_eq_false_iff_not,decide_eq_true_eq] at hs'
  obtain ⟨⟨s1,s2⟩,s3⟩:=hs'
  have hflo:vM false v=true:=by rw [aAJ,Bool.and_eq_true] at hf;exact hf.1
  have hk05:0≤v.Kind∧v.Kind≤5:=by
   unfold vM at hflo
   by_cases h0:v.Kind=0
   ·
    omega
   by_cases h1:v.Kind=1
   ·
    omega
   by_cases h2:v.Kind=2
   ·
    omega
   by_cases h6:v.Kind=6
   ·
    simp [h6] at hflo
   by_cases h3:v.Kind=3
   ·
    omega
   by_cases h4:v.Kind=4
   ·
    omega
   by_cases h5:v.Kind=5
   ·
    omega
   simp [h0,h1,h2,h6,h3,h4,h5] at hflo
  rw [aEP,List.append_assoc] at hat
  obtain ⟨r1,a1,a2⟩:=oJ (low:=-9223372036854775808) (high:=9223372036854775807) hat q0 q0.1 q0.2
  have ek:IntKind.i64.wrap ((k:Int)+1)=((k+1:Nat):Int):=by rw [w64 (by omega) (by omega)];omega
  rw [cY]
  have c1:(cond (decide ((k:Int)<(1000:Int))) (decide (d≤(16:Int))) false)=true:=by
   have h1:(k:Int)<1000:=by omega
   have h2:d≤16:=by omega
   simp [h1,h2]
  have c2:(cond (decide ((0:Int)≤v.Kind)) (decide (v.Kind≤(5:Int))) false)=true:=by simp [hk05.1,hk05.2]
  rw [c1,aCo _ hat]
  simp only [Option.bind_some,Bool.not_true,cond_false]
  rw [a1]
  simp only [Option.bind_some]
  rw [c2,ek,aCo _ a2]
  simp only [Option.bind_some,Bool.not_true,cond_false]
  have hnil:∀ {α:Type}{l:List α},decide (l.length=0)=true→l=[]:=fun h=>by simpa using h
  by_cases h1:v.Kind=1
  ·
   simp only [h1,true_or,if_true] at a2
   obtain ⟨r2,b1,b2⟩:=oJ (low:=-9223372036854775808) (high:=9223372036854775807) a2 q1 q1.1 q1.2
   have hfl:=hflo
   simp only [vM,h1,Int.reduceEq,if_true,if_false,Bool.and_eq_true,Bool.or_eq_true,decide_eq_true_eq] at hfl
   have c3:(cond (decide (v.Int=(0:Int))) true (decide (v.Int=(1:Int))))=true:=by rcases hfl.1.1.1 with h | h <;> simp [h]
   simp only [h1,decide_true,cond_true]
   rw [b1]
   simp only [Option.bind_some]
   rw [c3,aCo _ b2]
   simp only [Option.bind_some,Fl.next]
   have hit:=l1 (by omega) (by omega)
   have hks:v.Keys=[]:=by simpa using hfl.2
   have htx:v.Text=[]:=hfl.1.1.2
   refine ⟨r2,?_,b2⟩
   rw [hz,hit]
   obtain ⟨kd,i,t,l,ks⟩:=v
   simp only at h1 hit hks htx ⊢
   subst h1 hit hks htx
   simp [jB]
  by_cases h2:v.Kind=2
  ·
   simp only [h2,true_or,or_true,if_true] at a2
   obtain ⟨r2,b1,b2⟩:=oJ (low:=-9223372036854775808) (high:=9223372036854775807) a2 q1 q1.1 q1.2
   have hfl:=hflo
   simp only [vM,h2,Int.reduceEq,if_true,if_false,Bool.and_eq_true,decide_eq_true_eq] at hfl
   simp only [h2,Int.reduceEq,decide_false,decide_true,cond_true,cond_false]
   rw [b1]
   simp only [Option.bind_some,Fl.next]
   have hit:=l1 (by omega) (by omega)
   have hks:v.Keys=[]:=by simpa using hfl.2
   have htx:v.Text=[]:=hfl.1.1
   refine ⟨r2,?_,b2⟩
   rw [hz,hit]
   obtain ⟨kd,i,t,l,ks⟩:=v
   simp only at h2 hit hks htx ⊢
   subst h2 hit hks htx
   simp [jB]
  by_cases h3:v.Kind=3
  ·
   simp only [h3,Int.reduceEq,or_self,if_true,if_false] at a2
   obtain ⟨r2,b1,b2⟩:=xE (most:=9223372036854775807) a2 (by omega)
   have hfl:=hflo
   simp only [vM,h3,Int.reduceEq,if_true,if_false,Bool.and_eq_true,decide_eq_true_eq] at hfl
   simp only [h3,Int.reduceEq,decide_false,decide_true,cond_true,cond_false]
   rw [b1]
   simp only [Option.bind_some]
   have c3:decide ((v.Text.length:Int)≤4096)=true:=by simp;omega
   rw [c3,aCo _ b2]
   simp only [Option.bind_some,Fl.next]
   have hit:=l1 (by omega) (by omega)
   have hks:v.Keys=[]:=by simpa using hfl.2
   have hin:v.Int=0:=hfl.1.1
   refine ⟨r2,?_,b2⟩
   rw [hz,hit]
   obtain ⟨kd,i,t,l,ks⟩:=v
   simp only at h3 hit hks hin ⊢
   subst h3 hit hks hin
   simp [jB]
  by_cases h0:v.Kind=0
  ·
   simp only [h0,Int.reduceEq,or_self,if_false,List.nil_append] at a2
   have hfl:=hflo
   simp only [vM,h0,if_true,Bool.and_eq_true,decide_eq_true_eq] at hfl
   simp only [h0,Int.reduceEq,decide_false,cond_false,Option.bind_some,Fl.next]
   have hit:=l1 (by omega) (by omega)
   have hks:v.Keys=[]:=by simpa using hfl.2
   have htx:v.Text=[]:=hfl.1.1.2
   have hin:v.Int=0:=hfl.1.1.1
   refine ⟨r1,?_,a2⟩
   rw [hz,hit]
   obtain ⟨kd,i,t,l,ks⟩:=v
   simp only at h0 hit hks htx hin ⊢
   subst h0 hit hks htx hin
   simp [jB]
  have h45:v.Kind=4∨v.Kind=5:=by omega
  have e45:(cond (decide (v.Kind=(4:Int))) (some (decide (v.Kind=(4:Int)))) (some (decide (v.Kind=(5:Int)))))=some true:=by rcases h45 with h | h <;> simp [h]
  simp only [h1,h2,h3,decide_false,cond_false]
  rw [e45]
  simp only [Option.bind_some,cond_true]
  have hnl:v.Items.length≤jB v.Items:=aHA _
  have okn:oG (v.Items.length:Int):=⟨by omega,by omega⟩
  have hdw:IntKind.i64.wrap (d+1)=d+1:=w64 (by omega) (by omega)
  have c3:(cond (decide ((0:Int)≤(v.Items.length:Int))) (decide ((v.Items.length:Int)≤(1000:Int))) false)=true:=by
   have h1:(0:Int)≤(v.Items.length:Int):=by omega
   have h2:(v.Items.length:Int)≤1000:=by omega
   simp [h1,h2]
  have hItem:∀ (i:Nat) (hi:i<v.Items.length) (k':Nat) (r:aG) (rest:List UInt8),k'+nsz v.Items[i]≤1000→At r (lM v.Items[i]++rest)→∃ r',cY m (IntKind.i64.wrap (d+1)) k' r=some (v.Items[i],((k'+nsz v.Items[i]:Nat):Int),r')∧At r' rest:=fun i hi k' r rest hk' hat'=>by
   have hmem:=List.getElem_mem hi
   have hge:=iZ hmem
   rw [hdw]
   exact ih m (by omega) v.Items[i] (d+1) k' r rest hat' (q3.2.2 _ hmem) (hfi _ hmem) (s3 _ hmem) (by omega) (by omega) hk' (by omega)
  rw [eF]
  by_cases h4:v.Kind=4
  ·
   simp only [h4,Int.reduceEq,or_self,if_true,if_false,List.append_assoc] at a2
   obtain ⟨r2,b1,b2⟩:=oJ (low:=-9223372036854775808) (high:=9223372036854775807) a2 okn okn.1 okn.2
   rw [b1]
   simp only [Option.bind_some]
   rw [c3,aCo _ b2]
   simp only [Option.bind_some,Bool.not_true,cond_false]
   obtain ⟨X,g1,g2⟩:=oP (body:=dQ (cY m) ((v.Items.length:Int),r2) v.Kind d)
    (fun s=>∃ (i:Nat) (r':aG),i≤v.Items.length∧s=((i:Int),((k+1+jB (v.Items.take i):Nat):Int),r',v.Items.take i,[])∧At r' ((v.Items.drop i).flatMap lM++rest)) (fun s=>v.Items.length - s.1.toNat)
    (fun X=>∃ r',X=.go (((k+1+jB v.Items:Nat):Int),r',v.Items,[])∧At r' rest) (by
     rintro s ⟨i,r',hi,rfl,hat'⟩
     by_cases hlt:i<v.Items.length
     ·
      rw [xN lM _ i hlt,List.append_assoc] at hat'
      have ht1:=aAN v.Items i hlt
      have ht2:=uE v.Items (i+1)
      obtain ⟨r3,f1,f2⟩:=hItem i hlt (k+1+jB (v.Items.take i)) r' _ (by omega) hat'
      refine .inl ⟨_,?_,⟨i+1,r3,by omega,rfl,f2⟩,by simp;omega⟩
      unfold dQ
      simp only
      rw [cE,if_pos (by omega)]
      simp only [h4,Int.reduceEq,decide_false,cond_false,Option.bind_some,Fl.next]
      rw [f1]
      simp only [Option.bind_some]
      rw [pG f2,lQ (by simp;omega),jW hlt (by omega),List.take_succ_eq_append_getElem hlt]
      simp only [Option.bind_some,decide_true,Bool.not_true,cond_false]
      rw [← List.take_succ_eq_append_getElem hlt,ht1,Nat.add_assoc]
     ·
      obtain rfl:i=v.Items.length:=by omega
      refine .inr ⟨.go (((k+1+jB v.Items:Nat):Int),r',v.Items,[]),?_,r',rfl,by simpa using hat'⟩
      unfold dQ
      simp only
      rw [cE,if_neg (by omega),List.take_length]) ((0:Int),((k+1:Nat):Int),r2,[],[]) ⟨0,r2,by omega,by simp [jB],by simpa using b2⟩
   obtain ⟨r',rfl,hat'⟩:=g2
   rw [h4] at g1
   rw [h4,g1]
   simp only [Option.bind_some,Fl.next]
   have hfl:=hflo
   simp only [vM,h4,Int.reduceEq,if_true,if_false,Bool.and_eq_true,decide_eq_true_eq] at hfl
   have hks:v.Keys=[]:=by simpa using hfl.2
   have htx:v.Text=[]:=hfl.1.2
   have hin:v.Int=0:=hfl.1.1
   refine ⟨r',?_,hat'⟩
   rw [hz]
   obtain ⟨kd,i,t,l,ks⟩:=v
   simp only at h4 hks htx hin ⊢
   subst h4 hks htx hin
   rw [show k+1+jB l=k+(jB l+1) from by omega]
  ·
   have h5:v.Kind=5:=by omega
   have hlen:=l2 h5
   simp only [h5,Int.reduceEq,or_self,if_true,if_false,List.append_assoc] at a2
   obtain ⟨r2,b1,b2⟩:=oJ (low:=-9223372036854775808) (high:=9223372036854775807) a2 okn okn.1 okn.2
   rw [b1]
   simp only [Option.bind_some]
   rw [c3,aCo _ b2]
   simp only [Option.bind_some,Bool.not_true,cond_false]
   have hfl:=hflo
   simp only [vM,h5,Int.reduceEq,if_true,if_false,Bool.and_eq_true,decide_eq_true_eq] at hfl
   have hzl:(v.Items.zip v.Keys).length=v.Items.length:=by simp [hlen]
   obtain ⟨X,g1,g2⟩:=oP (body:=dQ (cY m) ((v.Items.length:Int),r2) v.Kind d)
    (fun s=>∃ (i:Nat) (r':aG),i≤v.Items.length∧s=((i:Int),((k+1+jB (v.Items.take i):Nat):Int),r',v.Items.take i,v.Keys.take i)∧At r' (((v.Items.zip v.Keys).drop i).flatMap (fun p=>oH p.2++lM p.1)++rest)) (fun s=>v.Items.length - s.1.toNat)
    (fun X=>∃ r',X=.go (((k+1+jB v.Items:Nat):Int),r',v.Items,v.Keys)∧At r' rest) (by
     rintro s ⟨i,r',hi,rfl,hat'⟩
     by_cases hlt:i<v.Items.length
     ·
      have hik:i<v.Keys.length:=by omega
      rw [xN _ _ i (by omega),List.append_assoc,List.getElem_zip,List.append_assoc] at hat'
      have ht1:=aAN v.Items i hlt
      have ht2:=uE v.Items (i+1)
      obtain ⟨r3,e1,e2⟩:=xE (most:=9223372036854775807) hat' (by have:=s2 _ (List.getElem_mem hik);simp only;omega)
      obtain ⟨r4,f1,f2⟩:=hItem i hlt (k+1+jB (v.Items.take i)) r3 _ (by omega) e2
      have hl4:(v.Keys[i].length:Int)≤4096:=by have:=s2 _ (List.getElem_mem hik);omega
      have hprev:(gd ((decide ((v.Keys[i].length:Int)≤(4096:Int)))==true&&((decide ((i:Int)=(0:Int)))==false)) (gR (v.Keys.take i) (IntKind.wrap .i64 ((i:Int) - (1:Int)))))=some (if h:i=0 then [] else v.Keys[i - 1]'(by omega)):=by
       by_cases hi0:i=0
       ·
        subst hi0;simp [gd];rfl
       ·
        have e:IntKind.i64.wrap ((i:Int) - 1)=((i - 1:Nat):Int):=by rw [w64 (by omega) (by omega)];omega
        have c2:decide ((i:Int)=0)=false:=by simp;omega
        rw [e,eH (l:=v.Keys.take i) (i:=i - 1) (by simp;omega),c2,decide_eq_true hl4]
        simp [gd,hi0]
      refine .inl ⟨((i+1:Nat),((k+1+jB (v.Items.take (i+1)):Nat):Int),r4,v.Items.take (i+1),v.Keys.take (i+1)),?_,⟨i+1,r4,by omega,rfl,f2⟩,by simp;omega⟩
      unfold dQ
      simp only
      rw [cE,if_pos (by omega)]
      simp only [h5,decide_true,cond_true]
      rw [e1]
      simp only [Option.bind_some]
      rw [hprev]
      simp only [Option.bind_some]
      have hC:(cond (decide ((v.Keys[i].length:Int)≤(4096:Int))) (cond (decide ((i:Int)=(0:Int))) true (!(Op.bytesLess v.Keys[i] (if h:i=0 then [] else v.Keys[i - 1]'(by omega))||decide (v.Keys[i]=(if h:i=0 then [] else v.Keys[i - 1]'(by omega)))))) false)=true:=by
       rw [decide_eq_true hl4,aFi]
       by_cases hi0:i=0
       ·
        subst hi0;simp
       ·
        have c2:decide ((i:Int)=0)=false:=by simp;omega
        have hr:=aIF (l:=v.Keys) (by omega) hfl.2 (i - 1) (by omega)
        have e:i - 1+1=i:=by omega
        simp only [e] at hr
        rw [c2];simp [hi0,hr]
      rw [hC,aCo _ e2]
      simp only [Option.bind_some,Bool.not_true,cond_false]
      rw [lQ (by simp;omega)]
      simp only [Option.bind_some,Fl.next]
      rw [f1]
      simp only [Option.bind_some]
      rw [pG f2,lQ (by simp;omega),jW hlt (by omega)]
      simp only [Option.bind_some,decide_true,Bool.not_true,cond_false]
      rw [← List.take_succ_eq_append_getElem hlt,← List.take_succ_eq_append_getElem hik,ht1,Nat.add_assoc]
     ·
      obtain rfl:i=v.Items.length:=by omega
      refine .inr ⟨.go (((k+1+jB v.Items:Nat):Int),r',v.Items,v.Keys),?_,r',rfl,?_⟩
      ·
       unfold dQ
       simp only
       rw [cE,if_neg (by omega),List.take_length,← hlen,List.take_length]
      ·
       rw [List.drop_eq_nil_of_le (by omega)] at hat';simpa using hat') ((0:Int),((k+1:Nat):Int),r2,[],[]) ⟨0,r2,by omega,by simp [jB],by simpa using b2⟩
   obtain ⟨r',rfl,hat'⟩:=g2
   rw [h5] at g1
   rw [h5,g1]
   simp only [Option.bind_some,Fl.next]
   have htx:v.Text=[]:=hfl.1.1.2
   have hin:v.Int=0:=hfl.1.1.1
   refine ⟨r',?_,hat'⟩
   rw [hz]
   obtain ⟨kd,i,t,l,ks⟩:=v
   simp only at h5 htx hin ⊢
   subst h5 htx hin
   rw [show k+1+jB l=k+(jB l+1) from by omega]
end Go.Proofs.YtnigjppddilpcaaGreatDoor
namespace Go.Proofs.YtnigjppddilpcaaGreatDoor
open Go Abs
set_option linter.unusedSimpArgs false
set_option linter.unusedVariables false
theorem aDW {b:List UInt8}{n:Int} (hb:b.length≤10000000000000) (h:oG n):iP b n=some (b++jJ n):=aAe hb h.1 h.2
theorem aDX {b s:List UInt8} (hb:b.length≤10000000000000) (hs:s.length≤10000000000000):gZ b s=some (b++oH s):=by rw [aDj hb hs,oH,List.append_assoc]
theorem aJF (v:aD):(cond (decide (v.Kind=(1:Int))) (some (decide (v.Kind=(1:Int)))) (cond (decide (v.Kind=(2:Int))) (some (decide (v.Kind=(2:Int)))) (some (decide (v.Kind=(6:Int))))))=some (decide (v.Kind=1∨v.Kind=2∨v.Kind=6)):=by
 by_cases h1:v.Kind=1
 ·
  simp [h1]
 ·
  by_cases h2:v.Kind=2 <;> simp [h1,h2]
theorem aIr (v:aD):(cond (decide (v.Kind=(4:Int))) (some (decide (v.Kind=(4:Int)))) (some (decide (v.Kind=(5:Int)))))=some (decide (v.Kind=4∨v.Kind=5)):=by
 by_cases h1:v.Kind=4 <;> simp [h1]
theorem aB5:∀ (n:Nat) (v:aD) (b:List UInt8),qW v≤n→cL v→sH true v=true→(b++lM v).length≤1000000000000→iS n b v=some (b++lM v)∧uO n b v=some (b++lM v):=by
 intro n
 induction n with
 | zero=>intro v b h;have:=gV v;omega
 | succ n ih =>
  intro v b h hv hf hB
  have hh:=gV v
  obtain ⟨k0,k1,k2,k3,k4⟩:=(dW v).1 hv
  obtain ⟨l1,l2,l3⟩:=aB9 hf
  rw [aEP] at hB ⊢
  rw [iS,uO,aJF,aIr]
  simp only [List.length_append] at hB
  rw [yQ (by omega) k0,aDW (by omega) k0]
  simp only [Option.bind_some]
  have hb0:(b++jJ v.Kind).length=b.length+(jJ v.Kind).length:=by simp
  by_cases h126:v.Kind=1∨v.Kind=2∨v.Kind=6
  ·
   simp only [h126,decide_true,cond_true,if_true] at hB ⊢
   rw [yQ (by omega) k1,aDW (by omega) k1]
   simp [Fl.next]
  ·
   simp only [h126,decide_false,cond_false,if_false] at hB ⊢
   by_cases h3:v.Kind=3
   ·
    have h3t:=aAj v.Text
    simp only [h3,decide_true,cond_true,if_true] at hB hb0 ⊢
    rw [aID (by omega) (by omega),aDX (by omega) (by omega)]
    simp [Fl.next]
   ·
    simp only [h3,decide_false,cond_false,if_false] at hB ⊢
    by_cases h4:v.Kind=4
    ·
     have hok:oG (v.Items.length:Int):=⟨by omega,by have:=k3.1;omega⟩
     simp only [h4,true_or,decide_true,cond_true,if_true,List.length_append] at hB ⊢
     rw [yQ (by simp only [List.length_append];omega) hok,aDW (by simp only [List.length_append];omega) hok]
     simp only [Option.bind_some,Fl.next]
     rw [oO 1000000000000 v.Items lM _ (by simp only [List.length_append];omega) (fun s i hi hs=>?_) (fun s=>?_),oO 1000000000000 v.Items lM _ (by simp only [List.length_append];omega) (fun s i hi hs=>?_) (fun s=>?_)]
     ·
      simp
     ·
      unfold oT
      rw [cE,if_pos (by simp only;omega)]
      simp only [h4,Int.reduceEq,decide_false,cond_false,Option.bind_some]
      rw [eH hi,Option.bind_some,(ih _ _ (by have:=iZ (List.getElem_mem hi);omega) (k3.2.2 _ (List.getElem_mem hi)) (l3 _ (List.getElem_mem hi)) hs).2,Option.bind_some,jW hi k3.1]
     ·
      unfold oT
      rw [cE,if_neg (by simp only;omega)]
     ·
      unfold gO
      rw [cE,if_pos (by simp only;omega),eH hi,Option.bind_some]
      simp only [h4,Int.reduceEq,decide_false,cond_false]
      rw [(ih _ _ (by have:=iZ (List.getElem_mem hi);omega) (k3.2.2 _ (List.getElem_mem hi)) (l3 _ (List.getElem_mem hi)) hs).1,Option.bind_some,jW hi k3.1]
     ·
      unfold gO
      rw [cE,if_neg (by simp only;omega)]
    ·
     by_cases h5:v.Kind=5
     ·
      have hok:oG (v.Items.length:Int):=⟨by omega,by have:=k3.1;omega⟩
      have hlen:=l2 h5
      have hz:(v.Items.zip v.Keys).length=v.Items.length:=by simp [hlen]
      simp only [h5,or_true,Int.reduceEq,decide_true,cond_true,if_true,if_false,List.length_append] at hB ⊢
      rw [yQ (by simp only [List.length_append];omega) hok,aDW (by simp only [List.length_append];omega) hok]
      simp only [Option.bind_some,Fl.next]
      rw [oO 1000000000000 (v.Items.zip v.Keys) (fun p=>oH p.2++lM p.1) _ (by simp only [List.length_append];omega) (fun s i hi hs=>?_) (fun s=>?_),oO 1000000000000 (v.Items.zip v.Keys) (fun p=>oH p.2++lM p.1) _ (by simp only [List.length_append];omega) (fun s i hi hs=>?_) (fun s=>?_)]
      ·
       simp
      ·
       unfold oT
       rw [hz] at hi
       have hik:i<v.Keys.length:=by omega
       simp only [List.getElem_zip,List.length_append] at hs ⊢
       have:=aAj v.Keys[i]
       rw [cE,if_pos (by omega)]
       simp only [h5,decide_true,cond_true]
       rw [eH hik,Option.bind_some,aDX (by omega) (by omega),Option.bind_some,Option.bind_some,eH hi,Option.bind_some,(ih _ _ (by have:=iZ (List.getElem_mem hi);omega) (k3.2.2 _ (List.getElem_mem hi)) (l3 _ (List.getElem_mem hi)) (by simp only [List.length_append];omega)).2,Option.bind_some,jW hi k3.1]
       simp
      ·
       unfold oT
       rw [cE,if_neg (by simp only;omega)]
      ·
       unfold gO
       rw [hz] at hi
       have hik:i<v.Keys.length:=by omega
       simp only [List.getElem_zip,List.length_append] at hs ⊢
       have:=aAj v.Keys[i]
       rw [cE,if_pos (by omega),eH hi,Option.bind_some]
       simp only [h5,decide_true,cond_true]
       rw [eH hik,Option.bind_some,aID (by omega) (by omega),Option.bind_some,(ih _ _ (by have:=iZ (List.getElem_mem hi);omega) (k3.2.2 _ (List.getElem_mem hi)) (l3 _ (List.getElem_mem hi)) (by simp only [List.length_append];omega)).1,Option.bind_some,jW hi k3.1]
       simp
      ·
       unfold gO
       rw [cE,if_neg (by simp only;omega)]
     ·
      simp only [h4,h5,or_self,decide_false,cond_false,if_false,Option.bind_some,Fl.next]
      rw [aFG (body:=gO (iS n) v) (s:=(b++jJ v.Kind,0)) (r:=b++jJ v.Kind) (by unfold gO;rw [l1 h4 h5];rfl)]
      simp
theorem aBs {b:List UInt8}{v:aD} (hv:cL v) (hB:(b++lM v).length≤1000000000000):oZ b v=some (b++if sH true v then lM v else []):=by
 unfold oZ vA
 simp only [List.length_append] at hB
 rw [sN (by omega),vJ hv]
 cases hf:sH true v
 ·
  simp
 ·
  simp only [Option.bind_some,Bool.not_true,cond_false,if_true]
  rw [qN (qW v) fun n hn=>(aB5 n v b hn hv hf (by simp only [List.length_append];omega)).1,Option.bind_some]
theorem aEF {b:List UInt8}{v:aD} (hv:cL v) (hB:(b++lM v).length≤1000000000000):uM b v=some (b++if sH true v then lM v else []):=by
 unfold uM aDV
 simp only [List.length_append] at hB
 rw [lQ (by simp;omega),aAS hv]
 cases hf:sH true v
 ·
  simp
 ·
  simp only [Option.bind_some,Bool.not_true,cond_false,if_true,List.nil_append]
  rw [qN (qW v) fun n hn=>(aB5 n v b hn hv hf (by simp only [List.length_append];omega)).2,Option.bind_some]
end Go.Proofs.YtnigjppddilpcaaGreatDoor
namespace Go.Proofs.YtnigjppddilpcaaGreatDoor
open Go Abs
set_option linter.unusedSimpArgs false
set_option linter.unusedVariables false
def jA (c:UInt8):Bool:=(decide (97≤c.toNat)&&decide (c.toNat≤122))||(decide (65≤c.toNat)&&decide (c.toNat≤90))||decide (c.toNat=95)
def iA (c:UInt8):Bool:=decide (48≤c.toNat)&&decide (c.toNat≤57)
theorem aCk (c:UInt8):qH (c.toNat:Int)=some (jA c):=by
 unfold qH jA
 congr 1
 rw [Bool.eq_iff_iff]
 simp only [Bool.cond_eq_ite,Bool.or_eq_true,Bool.and_eq_true,decide_eq_true_eq]
 split <;> (try split) <;> (try split) <;> simp_all <;> omega
theorem aCA (c:UInt8):uP (c.toNat:Int)=some (jA c||iA c):=by
 unfold uP jA iA
 congr 1
 rw [Bool.eq_iff_iff]
 have e:∀ n:Nat,((n:Int)≤(c.toNat:Int)↔n≤c.toNat)∧((c.toNat:Int)≤(n:Int)↔c.toNat≤n)∧((c.toNat:Int)=(n:Int)↔c.toNat=n):=fun n=>⟨by omega,by omega,by omega⟩
 have e1:=e 97;have e2:=e 122;have e3:=e 65;have e4:=e 90;have e5:=e 95;have e6:=e 48;have e7:=e 57
 simp only [Int.cast_ofNat_Int] at e1 e2 e3 e4 e5 e6 e7
 by_cases h1:97≤c.toNat <;> by_cases h2:c.toNat≤122 <;> by_cases h3:65≤c.toNat <;> by_cases h4:c.toNat≤90 <;> by_cases h5:c.toNat=95 <;> by_cases h6:48≤c.toNat <;> by_cases h7:c.toNat≤57 <;> simp [h1,h2,h3,h4,h5,h6,h7,e1.1,e2.2.1,e3.1,e4.2.1,e5.2.2,e6.1,e7.2.1] <;> omega
def kW (s:List UInt8):Bool:=!decide (s=[])&&decide (s.length≤64)&&!iA (s.headD 0)&&s.all fun c=>jA c||iA c
theorem nN {s:List UInt8}:jQ s=some (kW s):=by
 unfold jQ kW
 by_cases h0:s=[]
 ·
  simp [h0]
 ·
  by_cases h1:(64:Int)<s.length
  ·
   have h2:¬s.length≤64:=by omega
   simp [h0,h1,h2]
  ·
   have h2:s.length≤64:=by omega
   simp only [h0,h1,h2,decide_false,decide_true,cond_false,Bool.not_false,Bool.true_and]
   rw [kL s.length (fun i=>jA (s.getD i 0)||(decide (0<i)&&iA (s.getD i 0))) false (fun i hi=>?_) ?_,Option.bind_some]
   ·
    have:((List.range s.length).all fun i=>jA (s.getD i 0)||(decide (0<i)&&iA (s.getD i 0)))=(!iA (s.headD 0)&&s.all fun c=>jA c||iA c):=by
     obtain ⟨c,r,rfl⟩:∃ c r,s=c :: r:=by cases s with
      | nil=>exact absurd rfl h0
      | cons c r=>exact ⟨c,r,rfl⟩
     have hnd:jA c=true→iA c=false:=by
      unfold jA iA
      simp only [Bool.or_eq_true,Bool.and_eq_true,decide_eq_true_eq,Bool.and_eq_false_iff,decide_eq_false_iff_not]
      omega
     rw [Bool.eq_iff_iff,Bool.and_eq_true,List.all_eq_true,List.all_eq_true]
     constructor
     ·
      intro h
      have h3:=h 0 (by simp)
      simp only [List.getD_cons_zero,Nat.lt_irrefl,decide_false,Bool.false_and,Bool.or_false] at h3
      refine ⟨by simp [hnd h3],fun x hx=>?_⟩
      obtain ⟨i,hi,rfl⟩:=List.mem_iff_getElem.1 hx
      have h4:=h i (List.mem_range.2 hi)
      simp only [List.getD_eq_getElem?_getD,List.getElem?_eq_getElem hi,Option.getD_some] at h4
      revert h4
      cases jA (c :: r)[i] <;> cases iA (c :: r)[i] <;> simp
     ·
      rintro ⟨h3,h4⟩ i hi
      have hi:=List.mem_range.1 hi
      have h5:=h4 _ (List.getElem_mem hi)
      simp only [List.getD_eq_getElem?_getD,List.getElem?_eq_getElem hi,Option.getD_some]
      cases i with
      | zero=>revert h3 h5;simp only [List.headD_cons,List.getElem_cons_zero];cases jA c <;> cases iA c <;> simp
      | succ i=>simpa using h5
    rw [this]
    cases (!iA (s.headD 0)&&s.all fun c=>jA c||iA c) <;> rfl
   ·
    unfold pS
    rw [cE,if_neg (by omega)]
   ·
    unfold pS
    rw [cE,if_pos (by omega),eH hi,Option.bind_some,aCk,Option.bind_some,jW hi (by omega)]
    simp only [List.getD_eq_getElem?_getD,List.getElem?_eq_getElem hi,Option.getD_some]
    have hz:decide ((i:Int)=0)=!decide (0<i):=by rw [Bool.eq_iff_iff];simp
    have hd:∀ c:UInt8,(cond (decide ((c.toNat:Int)<48)) true (decide ((57:Int)<(c.toNat:Int))))=!iA c:=fun c=>by
     unfold iA
     by_cases h1:c.toNat<48
     ·
      have:¬48≤c.toNat:=by omega
      have h2:(c.toNat:Int)<48:=by omega
      simp [h2,this]
     ·
      have:48≤c.toNat:=by omega
      have h2:¬(c.toNat:Int)<48:=by omega
      rw [Bool.eq_iff_iff]
      simp [h2,this]
      omega
    rw [hz]
    generalize s[i]=c
    have hd':=hd c
    cases hl:jA c
    ·
     by_cases h0:0<i
     ·
      simp only [h0,decide_true,Bool.not_true,Bool.not_false,cond_true,cond_false,gd,beq_self_eq_true,Bool.and_self,Bool.true_and,if_true,Option.bind_some,Bool.false_or]
      by_cases h48:(c.toNat:Int)<48
      ·
       rw [show iA c=false by rw [← Bool.not_eq_true',← hd'];simp [h48]]
       simp [h48]
      ·
       simp only [h48,decide_false,cond_false] at hd' ⊢
       simp only [beq_self_eq_true,if_true,Option.bind_some,hd']
       cases iA c <;> rfl
     ·
      simp [h0,gd]
    ·
     simp [gd]
theorem aDi {s:List UInt8}:wI s=some (kW s):=by
 unfold wI kW
 by_cases h0:s=[]
 ·
  subst h0;rfl
 ·
  have hl:0<s.length:=List.length_pos_iff.2 h0
  by_cases h1:(64:Int)<s.length
  ·
   have h2:¬s.length≤64:=by omega
   have h3:(cond (decide ((s.length:Int)<1)) true (decide ((64:Int)<(s.length:Int))))=true:=by simp [h1]
   simp [h3,gd,h2]
  ·
   have h2:s.length≤64:=by omega
   have h3:(cond (decide ((s.length:Int)<1)) true (decide ((64:Int)<(s.length:Int))))=false:=by simp [h1];omega
   obtain ⟨c,r,rfl⟩:∃ c r,s=c :: r:=by cases s with
    | nil=>exact absurd rfl h0
    | cons c r=>exact ⟨c,r,rfl⟩
   have hi0:gR (c :: r) (0:Int)=some c:=rfl
   have hdg:(cond (decide ((48:Int)≤(c.toNat:Int))) (decide ((c.toNat:Int)≤57)) false)=iA c:=by
    unfold iA
    by_cases h4:48≤c.toNat
    ·
     have:(48:Int)≤(c.toNat:Int):=by omega
     rw [Bool.eq_iff_iff];simp [h4,this];omega
    ·
     have:¬(48:Int)≤(c.toNat:Int):=by omega
     simp [h4,this]
   rw [h3,hi0]
   simp only [h2,List.headD_cons,decide_true,Bool.and_true,reduceCtorEq,decide_false,Bool.not_false,gd,beq_self_eq_true,if_true,Option.bind_some,cond_false,Bool.true_and]
   have key:∀ x:UInt8,((decide ((48:Int)≤(c.toNat:Int))==true)=true→x=c)→(cond (decide ((48:Int)≤(c.toNat:Int))) (decide ((x.toNat:Int)≤57)) false)=iA c:=fun x hx=>by
    rw [← hdg]
    by_cases h4:(48:Int)≤(c.toNat:Int)
    ·
     rw [hx (by simp [h4])]
    ·
     simp [h4]
   have key2:∃ x:UInt8,(if (decide ((48:Int)≤(c.toNat:Int))==true)=true then some c else some default)=some x∧((decide ((48:Int)≤(c.toNat:Int))==true)=true→x=c):=by
    by_cases h4:(decide ((48:Int)≤(c.toNat:Int))==true)=true
    ·
     exact ⟨c,by rw [if_pos h4],fun _=>rfl⟩
    ·
     exact ⟨default,by rw [if_neg h4],fun h=>absurd h h4⟩
   obtain ⟨x,hx1,hx2⟩:=key2
   rw [hx1,Option.bind_some,key x hx2]
   cases hdc:iA c
   ·
    simp only [cond_false,Bool.not_false,Bool.true_and]
    rw [kL (c :: r).length (fun i=>jA ((c :: r).getD i default)||iA ((c :: r).getD i default)) false (fun i hi=>?_) ?_,Option.bind_some,pF (c :: r) fun c=>jA c||iA c]
    ·
     cases (c :: r).all fun c=>jA c||iA c <;> rfl
    ·
     unfold rU
     rw [cE,if_neg (by omega)]
    ·
     unfold rU
     rw [cE,if_pos (by omega),eH hi,Option.bind_some,aCA,Option.bind_some,jW hi (by omega)]
     simp only [List.getD_eq_getElem?_getD,List.getElem?_eq_getElem hi,Option.getD_some]
     cases jA (c :: r)[i] <;> cases iA (c :: r)[i] <;> rfl
   ·
    rfl
end Go.Proofs.YtnigjppddilpcaaGreatDoor
namespace Go.Proofs.YtnigjppddilpcaaGreatDoor
open Go Abs
set_option linter.unusedSimpArgs false
set_option linter.unusedVariables false
def aGF (c:UInt8):Bool:=decide (c.toNat<33)||decide (126<c.toNat)||decide (c.toNat=47)||decide (c.toNat=34)
def tC (s:List UInt8):Bool:=decide (1≤s.length)&&decide (s.length≤64)&&s.all fun c=>!aGF c
theorem aKG (c:UInt8):(cond (cond (cond (decide ((c.toNat:Int)<33)) true (decide ((126:Int)<(c.toNat:Int)))) true (decide ((c.toNat:Int)=47))) true (decide ((c.toNat:Int)=34)))=aGF c:=by
 unfold aGF
 rw [Bool.eq_iff_iff]
 by_cases h1:c.toNat<33
 ·
  have:(c.toNat:Int)<33:=by omega
  simp [h1,this]
 ·
  have e1:¬(c.toNat:Int)<33:=by omega
  by_cases h2:126<c.toNat
  ·
   have:(126:Int)<(c.toNat:Int):=by omega
   simp [h1,e1,h2,this]
  ·
   have e2:¬(126:Int)<(c.toNat:Int):=by omega
   simp [h1,e1,h2,e2]
   by_cases h3:(c.toNat:Int)=47 <;> simp [h3] <;> omega
theorem aJf {τ:Type}{s:List UInt8}{i:Nat} (hi:i<s.length) (a b:τ):(((gR s (i:Int)).bind fun (x6:UInt8)=>(gd ((decide (((x6).toNat:Int)<(33:Int)))==false) (gR s (i:Int))).bind fun (x8:UInt8)=>(gd ((cond (decide (((x6).toNat:Int)<(33:Int))) true (decide ((126:Int)<((x8).toNat:Int))))==false) (gR s (i:Int))).bind fun (x10:UInt8)=>(gd ((cond (cond (decide (((x6).toNat:Int)<(33:Int))) true (decide ((126:Int)<((x8).toNat:Int)))) true (decide (((x10).toNat:Int)=(47:Int))))==false) (gR s (i:Int))).bind fun (x12:UInt8)=>cond (cond (cond (cond (decide (((x6).toNat:Int)<(33:Int))) true (decide ((126:Int)<((x8).toNat:Int)))) true (decide (((x10).toNat:Int)=(47:Int)))) true (decide (((x12).toNat:Int)=(34:Int)))) (some a) (some b)):Option τ)=some (if !aGF s[i] then b else a):=by
 rw [eH hi,Option.bind_some]
 generalize s[i]=c
 rw [← aKG]
 by_cases h1:(c.toNat:Int)<33
 ·
  simp [h1,gd]
 ·
  by_cases h2:(126:Int)<(c.toNat:Int)
  ·
   have h2':¬(c.toNat:Int)≤126:=by omega
   simp [h1,h2,h2',gd]
  ·
   by_cases h3:(c.toNat:Int)=47
   ·
    simp [h1,h2,h3,gd]
   ·
    simp only [h1,h2,h3,decide_false,cond_false,beq_self_eq_true,gd,if_true,Option.bind_some]
    by_cases h4:(c.toNat:Int)=34 <;> simp [h4]
theorem aFw {s:List UInt8} (hs:s.length≤9223372036854775807):lP s=some (tC s):=by
 unfold lP tC
 rw [kL s.length (fun i=>!aGF (s.getD i default)) false (fun i hi=>?_) ?_,Option.bind_some,pF s fun c=>!aGF c]
 ·
  cases s.all fun c=>!aGF c
  ·
   simp [Fl.next]
  ·
   simp only [if_true,Fl.next,gD,Option.bind_some,Bool.and_true]
   congr 1
   rw [Bool.eq_iff_iff]
   by_cases h:(1:Int)≤s.length <;> simp [h] <;> omega
 ·
  unfold mX
  rw [cE,if_neg (by omega)]
 ·
  unfold mX
  rw [cE,if_pos (by omega),aJf hi,jW hi hs]
  simp only [List.getD_eq_getElem?_getD,List.getElem?_eq_getElem hi,Option.getD_some]
end Go.Proofs.YtnigjppddilpcaaGreatDoor
namespace Go.Proofs.YtnigjppddilpcaaGreatDoor
open Go Abs
set_option linter.unusedSimpArgs false
set_option linter.unusedVariables false
def inB (n l h:Int):Bool:=decide (l≤n)&&decide (n≤h)
theorem nK {n l h:Int}:gD n l h=some (inB n l h):=by unfold gD inB;rw [Bool.cond_eq_ite];by_cases h1:l≤n <;> simp [h1]
theorem aCB {n l h:Int}:wJ n l h=some (inB n l h):=by unfold wJ inB;rw [Bool.cond_eq_ite];by_cases h1:l≤n <;> simp [h1]
def wD (a b:bP):Bool:=decide (a.Queue=b.Queue)&&decide (a.ToStart=b.ToStart)&&decide (a.ToClose=b.ToClose)&&decide (a.Total=b.Total)&&decide (a.Beat=b.Beat)&&decide (a.First=b.First)&&decide (a.Coef=b.Coef)&&decide (a.Most=b.Most)&&decide (a.Attempts=b.Attempts)&&decide (a.Fatal=b.Fatal)
theorem xR {a b:bP} (h:eO a):gS a b=some (wD a b):=by
 have hf:a.Fatal.length≤9223372036854775807:=h.2.2.2.2.2.2.2.2.2.1
 unfold gS wD
 rw [aCF hf]
 simp only [iH,Option.bind_some,uA]
 by_cases h1:a.ToStart=b.ToStart
 ·
  by_cases h2:a.ToClose=b.ToClose
  ·
   by_cases h3:a.Total=b.Total
   ·
    by_cases h4:a.Beat=b.Beat
    ·
     by_cases h5:a.First=b.First
     ·
      by_cases h6:a.Coef=b.Coef
      ·
       by_cases h7:a.Most=b.Most
       ·
        by_cases h8:a.Attempts=b.Attempts
        ·
         by_cases h9:a.Queue=b.Queue <;> simp [h1,h2,h3,h4,h5,h6,h7,h8,h9,gd]
        ·
         simp [h1,h2,h3,h4,h5,h6,h7,h8]
       ·
        simp [h1,h2,h3,h4,h5,h6,h7]
      ·
       simp [h1,h2,h3,h4,h5,h6]
     ·
      simp [h1,h2,h3,h4,h5]
    ·
     simp [h1,h2,h3,h4]
   ·
    simp [h1,h2,h3]
  ·
   simp [h1,h2]
 ·
  simp [h1]
theorem aKz {a b:List (List UInt8)} (hlen:a.length=b.length):((List.range a.length).all fun i=>decide (a[i]?=b[i]?))=decide (a=b):=by
 rw [Bool.eq_iff_iff,List.all_eq_true]
 simp only [decide_eq_true_eq]
 constructor
 ·
  refine fun h6=>List.ext_getElem? fun i=>?_
  by_cases hi:i<a.length
  ·
   exact h6 i (List.mem_range.2 hi)
  ·
   rw [List.getElem?_eq_none (by omega),List.getElem?_eq_none (by omega)]
 ·
  intro e i _;rw [e]
theorem aAR {a b:bP} (h:eO a):kM a b=some (wD a b):=by
 have hf:a.Fatal.length≤9223372036854775807:=h.2.2.2.2.2.2.2.2.2.1
 unfold kM wD
 have hl:(a.Fatal.length:Int)=b.Fatal.length→dO (iM a b) (0:Int)=some (if decide (a.Fatal=b.Fatal) then .go () else .done false):=fun hlen=>by
  rw [kL a.Fatal.length (fun i=>decide (a.Fatal[i]?=b.Fatal[i]?)) false (fun i hi=>?_) ?_]
  ·
   rw [aKz (by omega)]
  ·
   unfold iM
   rw [cE,if_neg (by omega)]
  ·
   unfold iM
   have hb:i<b.Fatal.length:=by omega
   rw [cE,if_pos (by omega),eH hi,Option.bind_some,eH hb,Option.bind_some,uA,jW hi hf,List.getElem?_eq_getElem hi,List.getElem?_eq_getElem hb]
   simp only [Option.some.injEq,decide_eq_true_eq]
   split <;> rfl
 by_cases h0:(a.Fatal.length:Int)=b.Fatal.length
 ·
  rw [hl h0]
  by_cases h9:a.Fatal=b.Fatal
  ·
   simp only [h9,decide_true,if_true,Option.bind_some,Fl.next,Bool.not_true]
   cases decide (a.Queue=b.Queue) <;> cases decide (a.ToStart=b.ToStart) <;> cases decide (a.ToClose=b.ToClose) <;> cases decide (a.Total=b.Total) <;> cases decide (a.Beat=b.Beat) <;> first | rfl | (cases decide (a.First=b.First) <;> cases decide (a.Coef=b.Coef) <;> cases decide (a.Most=b.Most) <;> cases decide (a.Attempts=b.Attempts) <;> rfl)
  ·
   simp only [h9,h0,decide_true,decide_false,Option.bind_some,Fl.next,Bool.and_false]
   simp
 ·
  have h9:a.Fatal≠b.Fatal:=fun e=>h0 (by rw [e])
  simp [h0,h9]
theorem aIv {ks:List (List UInt8)} (h:ks.length≤9223372036854775807):cS ks=some (ks.any kK):=by
 unfold cS dM
 obtain ⟨x,h1,h2⟩:=tM (body:=cU ks) ks kK (fun i hi=>by
  unfold cU
  rw [cE,if_pos (by omega),eH hi,Option.bind_some,iX,Option.bind_some,jW hi h]
  show cond (kK ks[i]) _ _=_
  cases kK ks[i] <;> rfl) (by
  unfold cU
  rw [cE,if_neg (by omega)])
 rw [h1,Option.bind_some,h2]
def six (o:bP):List Int:=[o.ToStart,o.ToClose,o.Total,o.Beat,o.First,o.Most]
def jU (o:bP):Bool:=(decide (o.Queue=[])||kW o.Queue)&&decide (o.Fatal.length≤64)&&(six o).all (fun n=>inB n 0 1099511627776)&&inB o.Coef 0 10000&&inB o.Attempts 0 1000&&!o.Fatal.any kK
theorem rE {o:bP} (h:eO o):gC o=some (jU o):=by
 have hf:o.Fatal.length≤9223372036854775807:=h.2.2.2.2.2.2.2.2.2.1
 unfold gC jU
 rw [nN,aIv hf]
 simp only [nK]
 rw [kL (six o).length (fun i=>inB ((six o).getD i default) 0 1099511627776) false (fun i hi=>?_) ?_,Option.bind_some,pF (six o) fun n=>inB n 0 1099511627776]
 ·
  by_cases h0:(64:Int)<o.Fatal.length
  ·
   have h1:¬o.Fatal.length≤64:=by omega
   by_cases hq:o.Queue=[] <;> cases kW o.Queue <;> simp [hq,h0,h1,gd]
  ·
   have h1:o.Fatal.length≤64:=by omega
   cases (six o).all fun n=>inB n 0 1099511627776
   ·
    by_cases hq:o.Queue=[] <;> cases kW o.Queue <;> simp [hq,h0,h1,gd,Fl.next]
   ·
    by_cases hq:o.Queue=[] <;> cases kW o.Queue <;> cases inB o.Coef 0 10000 <;> cases inB o.Attempts 0 1000 <;> simp [hq,h0,h1,gd,Fl.next]
 ·
  unfold iO
  rw [cE,if_neg (by unfold six;omega)]
 ·
  unfold iO
  have hi':i<[o.ToStart,o.ToClose,o.Total,o.Beat,o.First,o.Most].length:=hi
  rw [cE,if_pos (by omega),eH hi',Option.bind_some,nK,Option.bind_some,jW hi (by unfold six;simp)]
  simp only [List.getD_eq_getElem?_getD,List.getElem?_eq_getElem hi,Option.getD_some]
  show cond (!inB (six o)[i] 0 1099511627776) _ _=_
  cases inB (six o)[i] 0 1099511627776 <;> rfl
theorem aAf {o:bP} (h:eO o):oU o=some (jU o):=by
 have hf:o.Fatal.length≤9223372036854775807:=h.2.2.2.2.2.2.2.2.2.1
 unfold oU jU
 rw [aDi]
 simp only [aCB]
 rw [kL (six o).length (fun i=>inB ((six o).getD i default) 0 1099511627776) false (fun i hi=>?_) ?_,Option.bind_some,pF (six o) fun n=>inB n 0 1099511627776]
 ·
  rw [kL o.Fatal.length (fun i=>!kK (o.Fatal.getD i default)) false (fun i hi=>?_) ?_,Option.bind_some,pF o.Fatal fun n=>!kK n,← sT]
  ·
   have e:decide ((o.Fatal.length:Int)≤64)=decide (o.Fatal.length≤64):=by rw [Bool.eq_iff_iff];simp;omega
   rw [e]
   cases (six o).all fun n=>inB n 0 1099511627776
   ·
    simp [Fl.next]
   ·
    cases o.Fatal.any kK
    ·
     by_cases hq:o.Queue=[] <;> cases kW o.Queue <;> cases inB o.Coef 0 10000 <;> cases inB o.Attempts 0 1000 <;> simp [hq,gd,Fl.next]
    ·
     simp [Fl.next]
  ·
   unfold mQ
   rw [cE,if_neg (by omega)]
  ·
   unfold mQ
   rw [cE,if_pos (by omega),eH hi,Option.bind_some,jW hi hf]
   simp only [List.getD_eq_getElem?_getD,List.getElem?_eq_getElem hi,Option.getD_some]
   show cond (kK o.Fatal[i]) _ _=_
   cases kK o.Fatal[i] <;> rfl
 ·
  unfold mP
  rw [cE,if_neg (by unfold six;omega)]
 ·
  unfold mP
  have hi':i<[o.ToStart,o.ToClose,o.Total,o.Beat,o.First,o.Most].length:=hi
  rw [cE,if_pos (by omega),eH hi',Option.bind_some,aCB,Option.bind_some,jW hi (by unfold six;simp)]
  simp only [List.getD_eq_getElem?_getD,List.getElem?_eq_getElem hi,Option.getD_some]
  show cond (!inB (six o)[i] 0 1099511627776) _ _=_
  cases inB (six o)[i] 0 1099511627776 <;> rfl
def oS (x:aD):Bool:=match x.Items with
 | [a,_]=>decide (x.Kind=4)&&decide (a.Kind=3)&&kW a.Text
 | _=>false
def aBl (v:aD):Bool:=match v.Items with
 | [_,b]=>decide (v.Kind=4)&&decide (b.Kind=4)&&b.Items.all oS
 | _=>false
theorem aKZ {α:Type}{l:List α} (h:l.length=2):∃ a b,l=[a,b]:=by
 match l,h with
 | [a,b],_=>exact ⟨a,b,rfl⟩
theorem aDP {x:aD} (h:¬x.Items.length=2):oS x=false:=by
 unfold oS
 split
 ·
  rename_i hx;exact absurd (by rw [hx];rfl) h
 ·
  rfl
theorem aFy {x:aD} (h:¬x.Items.length=2):aBl x=false:=by
 unfold aBl
 split
 ·
  rename_i hx;exact absurd (by rw [hx];rfl) h
 ·
  rfl
theorem xM {x:aD}:(cond (!decide (x.Kind=4)) true (!decide ((x.Items.length:Int)=2)))=!(decide (x.Kind=4)&&decide (x.Items.length=2)):=by
 by_cases h1:x.Kind=4
 ·
  rw [Bool.eq_iff_iff];simp [h1];omega
 ·
  simp [h1]
theorem aIp (x:aD):lG x=some (!oS x):=by
 unfold lG
 simp only [xM,nN]
 by_cases h2:x.Items.length=2
 ·
  obtain ⟨a,b,hab⟩:=aKZ h2
  unfold oS
  rw [hab]
  have h0:gR [a,b] (0:Int)=some a:=rfl
  rw [h0]
  by_cases h1:x.Kind=4 <;> by_cases h3:a.Kind=3 <;> simp [h1,h3,gd]
 ·
  have:oS x=false:=aDP h2
  simp [this,h2,gd]
theorem aJB {v:aD} (hv:cL v):nL v=some (aBl v):=by
 obtain ⟨k0,k1,k2,k3,k4⟩:=(dW v).1 hv
 unfold nL
 simp only [xM]
 by_cases h2:v.Items.length=2
 ·
  obtain ⟨a,b,hab⟩:=aKZ h2
  obtain ⟨_,_,_,hb,_⟩:=(dW b).1 (k3.2.2 b (by rw [hab];simp))
  unfold aBl
  rw [hab]
  have h0:gR [a,b] (1:Int)=some b:=rfl
  have hC:cR b.Items=some (b.Items.any fun x=>!oS x):=by
   unfold cR dL
   obtain ⟨x,h1,h2⟩:=tM (body:=cT b.Items) b.Items (fun x=>!oS x) (fun i hi=>by
    unfold cT
    rw [cE,if_pos (by omega),eH hi,Option.bind_some,aIp,Option.bind_some,jW hi hb.1]
    cases oS b.Items[i] <;> rfl) (by
    unfold cT
    rw [cE,if_neg (by omega)])
   rw [h1,Option.bind_some,h2]
  have hA:(!b.Items.any fun x=>!oS x)=b.Items.all oS:=by rw [sT];simp
  rw [h0]
  by_cases h1:v.Kind=4 <;> by_cases h3:b.Kind=4
  ·
   simp only [h1,h3,List.length_cons,List.length_nil,decide_true,Bool.and_self,Bool.not_true,cond_false,beq_self_eq_true,gd,if_true,Option.bind_some,hC,hA,Bool.true_and]
  ·
   simp [h1,h3,gd]
  ·
   simp [h1,h3,gd]
  ·
   simp [h1,h3,gd]
 ·
  have:aBl v=false:=aFy h2
  simp [this,h2,gd]
end Go.Proofs.YtnigjppddilpcaaGreatDoor
namespace Go.Proofs.YtnigjppddilpcaaGreatDoor
open Go Abs
set_option linter.unusedSimpArgs false
set_option linter.unusedVariables false
def aD8:aD:=⟨0,0,[],[],[]⟩
def aC4:bP:=⟨[],0,0,0,0,0,0,0,0,[]⟩
def yX (k:Int):eN :=
 if k=1 then ⟨true,true,false,false,true,true⟩
 else if k=2 then ⟨true,false,false,false,false,false⟩
 else if k=3 then ⟨true,false,false,true,false,false⟩
 else if k=4 then ⟨true,false,false,false,false,false⟩
 else if k=5 then ⟨true,true,true,true,true,false⟩
 else if k=6 then ⟨true,true,true,false,true,false⟩
 else if k=7 then ⟨false,true,false,true,true,false⟩
 else if k=8 then ⟨false,true,true,false,true,false⟩
 else if k=9 then ⟨false,false,true,true,true,false⟩
 else if k=12 then ⟨false,true,false,false,true,false⟩
 else ⟨false,false,false,false,true,false⟩
theorem aIm (k:Int):mE k=some (yX k):=by
 unfold mE yX
 by_cases h1:k=1
 ·
  simp [h1]
 by_cases h2:k=2
 ·
  simp [h2]
 by_cases h3:k=3
 ·
  simp [h3]
 by_cases h4:k=4
 ·
  simp [h4]
 by_cases h5:k=5
 ·
  simp [h5]
 by_cases h6:k=6
 ·
  simp [h6]
 by_cases h7:k=7
 ·
  simp [h7]
 by_cases h8:k=8
 ·
  simp [h8]
 by_cases h9:k=9
 ·
  simp [h9]
 by_cases h12:k=12
 ·
  simp [h12]
 simp [h1,h2,h3,h4,h5,h6,h7,h8,h9,h12]
def aHr (c:fL) (u:eN):Bool :=
 (u.seq_||decide (c.Seq=0))&&(u.name_||decide (c.Name=[]))&&(u.key_||decide (c.Key=[]))&&(u.n_||decide (c.N=0))&&(u.data_||oE c.Data aD8)&&(u.opts_||wD c.Opts aC4)
theorem aKH {c:fL}{u:eN} (h:qY c):oK c u=some (aHr c u):=by
 unfold oK aHr
 have hd:cL c.Data:=h.2.2.2.2.2.1
 have ho:eO c.Opts:=h.2.2.2.2.2.2
 rw [show (aD.mk 0 0 [] [] [])=aD8 from rfl,show (bP.mk [] 0 0 0 0 0 0 0 0 [])=aC4 from rfl,yD hd,xR ho]
 cases u.seq_ <;> cases u.name_ <;> cases u.key_ <;> cases u.n_ <;> cases decide (c.Seq=0) <;> cases decide (c.Name=[]) <;> cases decide (c.Key=[]) <;> cases decide (c.N=0) <;> first | rfl | (cases u.data_ <;> cases u.opts_ <;> cases oE c.Data aD8 <;> rfl)
def aJP (c:fL):Bool :=
 if c.Kind=3 then inB c.N 1 1099511627776
 else if c.Kind=5 then inB c.N 0 2
 else if c.Kind=9 then inB c.N 0 1
 else if c.Kind=7 then decide (c.N=-1)||(inB c.N 0 2147483647&&decide (c.Data.Kind=0))
 else if c.Kind=10 then decide (c.Data.Kind=5)
 else if c.Kind=14 then aBl c.Data
 else true
theorem aIy {c:fL} (h:qY c):mF c=some (aJP c):=by
 unfold mF aJP
 rw [aJB h.2.2.2.2.2.1]
 simp only [nK,cE,Option.bind_some]
 by_cases h3:c.Kind=3
 ·
  simp only [h3,if_true]
 by_cases h5:c.Kind=5
 ·
  simp only [h5,if_true,Int.reduceEq,if_false]
 by_cases h9:c.Kind=9
 ·
  simp only [h9,if_true,Int.reduceEq,if_false]
 by_cases h7:c.Kind=7
 ·
  simp only [h7,if_true,Int.reduceEq,if_false]
  by_cases hn:c.N=-1
  ·
   simp [hn,gd]
  ·
   cases inB c.N 0 2147483647 <;> by_cases hk:c.Data.Kind=0 <;> simp [hn,hk,gd]
 by_cases h10:c.Kind=10
 ·
  simp only [h10,if_true,Int.reduceEq,if_false]
 by_cases h14:c.Kind=14
 ·
  simp only [h14,if_true,Int.reduceEq,if_false]
 simp only [h3,h5,h9,h7,h10,h14,if_false]
noncomputable def aAG (c:fL):Bool :=
 inB c.Kind 1 14&&aHr c (yX c.Kind)&&pB c.Data&&jU c.Opts&&(!(yX c.Kind).seq_||inB c.Seq 1 2000)&&(!(yX c.Kind).key_||tC c.Key)
  && (!(yX c.Kind).name_||(if c.Kind=12 then !kK c.Name else kW c.Name))&&aJP c
theorem aAE {c:fL} (h:qY c):nJ c=some (aAG c):=by
 have hd:cL c.Data:=h.2.2.2.2.2.1
 have ho:eO c.Opts:=h.2.2.2.2.2.2
 have hk:c.Key.length≤9223372036854775807:=Nat.le_trans h.2.2.2.1 (by decide)
 unfold nJ aAG
 rw [aIm,Option.bind_some]
 simp only [aKH h,wW hd,rE ho,aFw hk,nN,aIy h,nK,Option.bind_some]
 generalize yX c.Kind=u
 obtain ⟨useq,uname,ukey,un,udata,uopts⟩:=u
 simp only
 generalize aHr c _=b
 cases inB c.Kind 1 14
 ·
  simp [gd]
 cases b
 ·
  simp [gd]
 cases pB c.Data
 ·
  simp [gd]
 cases jU c.Opts
 ·
  simp [gd]
 simp only [Bool.not_true,cond_false,beq_self_eq_true,gd,if_true,Option.bind_some,Bool.true_and]
 have hl:decide ((4096:Int)<(c.Name.length:Int))=kK c.Name:=rfl
 rw [hl]
 by_cases h12:c.Kind=12
 ·
  simp only [h12,decide_true,Bool.not_true,cond_true,cond_false,if_true]
  cases useq <;> cases ukey <;> cases uname <;> cases inB c.Seq 1 2000 <;> cases tC c.Key <;> cases kK c.Name <;> cases aJP c <;> rfl
 ·
  simp only [h12,decide_false,Bool.not_false,cond_true,cond_false,if_false]
  cases useq <;> cases ukey <;> cases uname <;> cases inB c.Seq 1 2000 <;> cases tC c.Key <;> cases kW c.Name <;> cases aJP c <;> rfl
theorem aG3 {p:bP} (h:wD p aC4=true):p=aC4:=by
 unfold wD at h
 simp only [Bool.and_eq_true,decide_eq_true_eq] at h
 obtain ⟨⟨⟨⟨⟨⟨⟨⟨⟨h1,h2⟩,h3⟩,h4⟩,h5⟩,h6⟩,h7⟩,h8⟩,h9⟩,h10⟩:=h
 cases p;simp_all [aC4]
theorem aHh (v:aD):oE v v=true:=(aIU (qW v) v v (Nat.le_refl _)).2 rfl
theorem aG2 (p:bP):wD p p=true:=by simp [wD]
end Go.Proofs.YtnigjppddilpcaaGreatDoor
namespace Go.Proofs.YtnigjppddilpcaaGreatDoor
open Go Abs
set_option linter.unusedSimpArgs false
set_option linter.unusedVariables false
end Go.Proofs.YtnigjppddilpcaaGreatDoor
namespace Go.Proofs.YtnigjppddilpcaaGreatDoor
open Go Abs
set_option linter.unusedSimpArgs false
set_option linter.unusedVariables false
def aBn (o:bP):List UInt8:=oH o.Queue++jJ o.ToStart++jJ o.ToClose++jJ o.Total++jJ o.Beat++jJ o.First++jJ o.Coef++jJ o.Most++jJ o.Attempts++jJ o.Fatal.length++o.Fatal.flatMap oH
theorem aEr {α:Type} (f:α→List UInt8) (m:Nat):∀ (l:List α),(∀ x∈l,(f x).length≤m)→(l.flatMap f).length≤l.length*m
 | [],_=>by simp
 | x :: l,h=>by
  have h1:=h x (by simp)
  have h2:=aEr f m l (fun y hy=>h y (by simp [hy]))
  simp only [List.flatMap_cons,List.length_append,List.length_cons,Nat.add_mul];omega
theorem aGW {s:List UInt8} (h:kW s=true):s.length≤64:=by
 unfold kW at h
 simp only [Bool.and_eq_true,decide_eq_true_eq] at h
 exact h.1.1.2
theorem sX {o:bP} (h:jU o=true):o.Queue.length≤64∧o.Fatal.length≤64∧∀ s∈o.Fatal,s.length≤4096:=by
 unfold jU at h
 simp only [Bool.and_eq_true,Bool.or_eq_true,decide_eq_true_eq,Bool.not_eq_true',List.any_eq_false,kK,decide_eq_false_iff_not] at h
 refine ⟨?_,h.1.1.1.1.2,fun s hs=>by have:=h.2 s hs;omega⟩
 rcases h.1.1.1.1.1 with hq | hq
 ·
  rw [hq];simp
 ·
  exact aGW hq
theorem aAb {o:bP} (h:eO o) (hp:jU o=true):(aBn o).length≤300000:=by
 obtain ⟨h1,h2,h3⟩:=sX hp
 obtain ⟨k0,k1,k2,k3,k4,k5,k6,k7,k8,k9⟩:=h
 have a0:=nQ (s:=o.Queue) (by omega)
 have a1:=lJ k1
 have a2:=lJ k2
 have a3:=lJ k3
 have a4:=lJ k4
 have a5:=lJ k5
 have a6:=lJ k6
 have a7:=lJ k7
 have a8:=lJ k8
 have a9:=qX k9.1
 have a10:=aEr oH 4106 o.Fatal (fun s hs=>by have:=h3 s hs;have:=nQ (s:=s) (by omega);omega)
 unfold aBn
 simp only [List.length_append]
 omega
theorem aIB {b:List UInt8}{o:bP} (h:eO o) (hp:jU o=true) (hb:b.length≤100000000000):mG b o=some (b++aBn o):=by
 obtain ⟨h1,h2,h3⟩:=sX hp
 have hl:=aAb h hp
 obtain ⟨k0,k1,k2,k3,k4,k5,k6,k7,k8,k9⟩:=h
 have hok:oG (o.Fatal.length:Int):=⟨by omega,by omega⟩
 unfold aBn at hl ⊢
 simp only [List.length_append] at hl
 unfold mG
 simp only [iH,Option.bind_some]
 rw [aID (by first | omega | (simp only [List.length_append];omega)) (by omega),Option.bind_some,yQ (by first | omega | (simp only [List.length_append];omega)) k1,Option.bind_some,yQ (by first | omega | (simp only [List.length_append];omega)) k2,Option.bind_some,
  yQ (by first | omega | (simp only [List.length_append];omega)) k3,Option.bind_some,yQ (by first | omega | (simp only [List.length_append];omega)) k4,Option.bind_some,yQ (by first | omega | (simp only [List.length_append];omega)) k5,Option.bind_some,
  yQ (by first | omega | (simp only [List.length_append];omega)) k6,Option.bind_some,yQ (by first | omega | (simp only [List.length_append];omega)) k7,Option.bind_some,yQ (by first | omega | (simp only [List.length_append];omega)) k8,Option.bind_some,
  yQ (by first | omega | (simp only [List.length_append];omega)) hok,Option.bind_some]
 rw [oO 1000000000000 o.Fatal oH _ (by first | omega | (simp only [List.length_append];omega)) (fun s i hi hs=>?_) (fun s=>?_)]
 ·
  simp
 ·
  unfold lX
  simp only [List.length_append] at hs
  have:=aAj o.Fatal[i]
  rw [cE,if_pos (by simp only;omega),eH hi,Option.bind_some,aID (by simp only;omega) (by omega),Option.bind_some,jW hi k9.1]
 ·
  unfold lX
  rw [cE,if_neg (by simp only;omega)]
theorem aBj {b:List UInt8}{o:bP} (h:eO o) (hb:b.length≤100000000000):hZ b o=some (b++if jU o then aBn o else []):=by
 unfold hZ
 rw [sN (by omega),rE h]
 cases hp:jU o
 ·
  simp
 ·
  simp [aIB h hp hb]
theorem yT {b:List UInt8}{o:bP} (h:eO o) (hb:b.length≤100000000000):nU b o=some (b++if jU o then aBn o else []):=by
 unfold nU
 rw [lQ (by simp;omega),aAf h]
 cases hp:jU o
 ·
  simp
 ·
  obtain ⟨h1,h2,h3⟩:=sX hp
  have hl:=aAb h hp
  obtain ⟨k0,k1,k2,k3,k4,k5,k6,k7,k8,k9⟩:=h
  have hok:oG (o.Fatal.length:Int):=⟨by omega,by omega⟩
  unfold aBn at hl ⊢
  simp only [List.length_append] at hl
  simp only [Option.bind_some,List.nil_append,Bool.not_true,cond_false,if_true]
  rw [aDX (by omega) (by omega),Option.bind_some]
  have hns:∀ n∈[o.ToStart,o.ToClose,o.Total,o.Beat,o.First,o.Coef,o.Most,o.Attempts,(o.Fatal.length:Int)],oG n:=by
   simp only [List.mem_cons,List.not_mem_nil,or_false]
   rintro n (rfl | rfl | rfl | rfl | rfl | rfl | rfl | rfl | rfl) <;> assumption
  rw [oO 1000000000000 [o.ToStart,o.ToClose,o.Total,o.Beat,o.First,o.Coef,o.Most,o.Attempts,(o.Fatal.length:Int)] jJ _ (by simp only [List.length_append,List.flatMap_cons,List.flatMap_nil,List.length_nil];omega) (fun s i hi hs=>?_) (fun s=>?_),Option.bind_some]
  ·
   rw [oO 1000000000000 o.Fatal oH _ (by simp only [List.length_append,List.flatMap_cons,List.flatMap_nil,List.length_nil];omega) (fun s i hi hs=>?_) (fun s=>?_)]
   ·
    simp
   ·
    unfold lT
    simp only [List.length_append] at hs
    have:=aAj o.Fatal[i]
    rw [cE,if_pos (by simp only;omega),eH hi,Option.bind_some,aDX (by simp only;omega) (by omega),Option.bind_some,jW hi k9.1]
   ·
    unfold lT
    rw [cE,if_neg (by simp only;omega)]
  ·
   unfold lS
   simp only [List.length_append] at hs
   rw [cE,if_pos (by simp only;omega),eH hi,Option.bind_some,aDW (by simp only;omega) (hns _ (List.getElem_mem hi)),Option.bind_some,jW hi (by simp)]
  ·
   unfold lS
   rw [cE,if_neg (by simp only;omega)]
theorem aAq {v:aD} (h:pB v=true):shr v=true∧sH false v=true∧sH true v=true:=by
 unfold pB wth at h
 simp only [Bool.and_eq_true] at h
 refine ⟨h.1.2,h.2,?_⟩
 have:=h.2
 rw [aLM (qW v) v (Nat.le_refl _)] at this
 simp only [Bool.and_eq_true] at this
 exact this.1
theorem aEo {c:fL} (h:aAG c=true):pB c.Data=true∧jU c.Opts=true:=by
 unfold aAG at h
 simp only [Bool.and_eq_true] at h
 exact ⟨h.1.1.1.1.1.2,h.1.1.1.1.2⟩
end Go.Proofs.YtnigjppddilpcaaGreatDoor

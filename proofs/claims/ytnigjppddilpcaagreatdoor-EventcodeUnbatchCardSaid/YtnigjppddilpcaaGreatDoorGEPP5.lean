/- Plain laws: what the functions compute, with no program in sight. -/
import Derived.Test.YtnigjppddilpcaaGreatDoorGEPP4
import Derived.Test.YtnigjppddilpcaaGreatDoorGEF5
import Derived.Test.YtnigjppddilpcaaGreatDoorGEPP3
import Derived.Test.YtnigjppddilpcaaGreatDoorGEF6
import Derived.Test.YtnigjppddilpcaaGreatDoorGEF12
namespace Go.Proofs.YtnigjppddilpcaaGreatDoor
open Go Abs
set_option linter.unusedSimpArgs false
set_option linter.unusedVariables false
def aHs (v:aF):List UInt8:=if v.Kind=1∨v.Kind=2∨v.Kind=6 then qT v.Int else if v.Kind=3 then uZ v.Text else if v.Kind=4 then qT v.Items.length++v.Items.flatMap sQ else if v.Kind=5 then qT v.Items.length++(v.Items.zip v.Keys).flatMap fun p=>uZ p.2++sQ p.1 else []
theorem aKS (v:aF):sQ v=qT v.Kind++aHs v:=aIf v
def E2 (kd:Int) (items:List aF) (keys:List (List UInt8)):List UInt8:=if kd=4 then items.flatMap sQ else (items.zip keys).flatMap fun p=>uZ p.2++sQ p.1
theorem aWj {items:List aF}{keys keys':List (List UInt8)}{v:aF}:E2 4 (items++[v]) keys'=E2 4 items keys++sQ v:=by unfold E2;rw [aT rfl,aT rfl,kU];simp
theorem aWk {items:List aF}{keys:List (List UInt8)}{v:aF}{t:List UInt8} (h:keys.length=items.length):E2 5 (items++[v]) (keys++[t])=E2 5 items keys++(uZ t++sQ v):=by
 unfold E2
 rw [aQ (by decide),aQ (by decide),List.zip_append h.symm,kU]
 simp
def aQI (rd:Int→Int→aM→Option (aF × Int × aM)):Prop:=∀ (d k:Int) (r:aM) (v:aF) (k':Int) (r':aM),Vld r→rd d k r=some (v,k',r')→Vld r'∧aC6 r r' (sQ v)
theorem aIF {rd:Int→Int→aM→Option (aF × Int × aM)} (ih:aQI rd) {n kd d i k:Int}{r1 r:aM}{items:List aF}{keys:List (List UInt8)}{st:dN (Int × Int × aM × (List aF) × (List (List UInt8))) (Fl (aF × Int × aM) (Int × aM × (List aF) × (List (List UInt8))))}
  (hk:kd=4∨kd=5) (hv:Vld r) (h:fD rd (n,r1) kd d (i,k,r,items,keys)=some st) :
  (¬i<n∧st=.out (.go (k,r,items,keys)))∨(i<n∧∃ v k' r',st=.out (.done (v,k',r'))∧Vld r'∧∀ rest,¬At r' rest) ∨
  (i<n∧∃ v k' r' keys',st=.next (IntKind.i64.wrap (i+1),k',r',items++[v],keys')∧Vld r'∧((kd=4∧aC6 r r' (sQ v))∨(kd=5∧∃ t,keys'=keys++[t]∧aC6 r r' (uZ t++sQ v)))):=by
 unfold fD at h
 simp only at h
 rw [dF] at h
 by_cases hi:i<n
 ·
  rw [aT hi] at h
  obtain ⟨x12,hx,h⟩:=eF h
  have key:(∃ v k' r',x12=.done (.out (.done (v,k',r')))∧Vld r'∧∀ rest,¬At r' rest)∨∃ r2 keys2,x12=.go (r2,keys2)∧Vld r2∧((kd=4∧keys2=keys∧r2=r)∨(kd=5∧∃ t,keys2=keys++[t]∧aC6 r r2 (uZ t))):=by
   rcases hk with rfl | rfl
   ·
    simp only [Int.reduceEq,bP,aZ,bH] at hx
    exact .inr ⟨_,_,hx.symm,hv,.inl ⟨rfl,rfl,rfl⟩⟩
   ·
    simp only [bC,bS] at hx
    obtain ⟨⟨t,r2⟩,e1,hx⟩:=eF hx
    obtain ⟨p,e2,hx⟩:=eF hx
    obtain ⟨⟨b,r3⟩,e3,hx⟩:=eF hx
    obtain ⟨w1,w2⟩:=aCK hv e1
    obtain ⟨w3,w4,w5⟩:=aGM w1 e3
    cases b
    ·
     simp only [cH,bS,bH] at hx
     exact .inl ⟨_,_,_,hx.symm,w3,fun rest hr=>by cases w5 rest hr⟩
    ·
     obtain ⟨_,rfl⟩:=w4 rfl
     simp only [bE,aZ] at hx
     obtain ⟨ks,e4,hx⟩:=eF hx
     obtain ⟨_,rfl⟩:=aBO e4
     simp only [bH] at hx
     exact .inr ⟨_,_,hx.symm,w3,.inr ⟨rfl,t,rfl,w2⟩⟩
  rcases key with ⟨v,k',r',rfl,a,b⟩ | ⟨r2,keys2,rfl,a,b⟩
  ·
   simp only [Fl.next,bH] at h
   exact .inr (.inl ⟨hi,v,k',r',h.symm,a,b⟩)
  ·
   simp only [Fl.next] at h
   obtain ⟨⟨v,k',r'⟩,e1,h⟩:=eF h
   obtain ⟨e,e2,h⟩:=eF h
   obtain ⟨c1,c2⟩:=ih _ _ _ _ _ _ a e1
   by_cases he:e=0
   ·
    simp only [he,bC,bE,aZ] at h
    obtain ⟨its,e4,h⟩:=eF h
    obtain ⟨_,rfl⟩:=aBO e4
    simp only [bH] at h
    refine .inr (.inr ⟨hi,v,k',r',keys2,h.symm,c1,?_⟩)
    rcases b with ⟨rfl,rfl,rfl⟩ | ⟨rfl,t,rfl,w⟩
    ·
     exact .inl ⟨rfl,c2⟩
    ·
     exact .inr ⟨rfl,t,rfl,w.trans c2⟩
   ·
    simp only [he,bP,cH,bS,bH] at h
    exact .inr (.inl ⟨hi,_,_,_,h.symm,c1,fun rest hr=>he (by rw [uP hr] at e2;cases e2;rfl)⟩)
 ·
  rw [aQ hi] at h
  simp only [bH] at h
  exact .inl ⟨hi,h.symm⟩
def QI (n kd:Int) (R0:aM):Fl (aF × Int × aM) (Int × aM × List aF × List (List UInt8))→Prop
 | .done x=>Vld x.2.2∧∀ rest,¬At x.2.2 rest
 | .go j=>Vld j.2.1∧aC6 R0 j.2.1 (E2 kd j.2.2.1 j.2.2.2)∧(j.2.2.1.length:Int)=n
theorem aP6 {m:Nat} (ih:aQI (eE m)) {kd d k k':Int}{r r':aM}{v:aF} (hk:kd=4∨kd=5) (hv:Vld r) (h:gV (m+1) kd 0 [] d k r=some (v,k',r')) :
  Vld r'∧∀ rest,At r' rest→v.Kind=kd∧At r (qT v.Items.length++(E2 kd v.Items v.Keys++rest)):=by
 rw [gV] at h
 obtain ⟨⟨n,r1⟩,h1,h⟩:=eF h
 obtain ⟨⟨t,r2⟩,h2,h⟩:=eF h
 obtain ⟨v1,a1⟩:=xT hv h1
 obtain ⟨v2,a2,a3⟩:=aGM v1 h2
 cases t with
 | false =>
  simp only [cH,bS,bH,fQ] at h
  obtain ⟨rfl,rfl,rfl⟩:=h
  exact ⟨v2,fun rest hr=>by cases a3 rest hr⟩
 | true =>
  obtain ⟨c1,e1⟩:=a2 rfl
  subst e1
  simp only [bE,aZ] at h
  obtain ⟨x7,h3,h⟩:=eF h
  have hn:0≤n∧n≤1000:=by
   by_cases h0:0≤n
   ·
    by_cases h9:n≤1000
    ·
     exact ⟨h0,h9⟩
    ·
     simp [h0,h9] at c1
   ·
    simp [h0] at c1
  have key:QI n kd r2 x7:=by
   refine aMD (fun s:Int × Int × aM × List aF × List (List UInt8)=>∃ i:Nat,s.1=(i:Int)∧(i:Int)≤n∧s.2.2.2.1.length=i∧(kd=5→s.2.2.2.2.length=i)∧Vld s.2.2.1∧aC6 r2 s.2.2.1 (E2 kd s.2.2.2.1 s.2.2.2.2)) (QI n kd r2) ?_ ?_ ⟨0,rfl,hn.1,rfl,fun _=>rfl,v1,?_⟩ h3
   ·
    rintro ⟨i0,k0,r0,items,keys⟩ s' ⟨i,hi,hin,hl,hl5,w,tk⟩ hb
    simp only at hi hin hl hl5 w tk
    subst hi
    rcases aIF ih hk w hb with ⟨_,e⟩ | ⟨_,_,_,_,e,_⟩ | ⟨hlt,v,k',r',keys',e,w1,w2⟩
    ·
     cases e
    ·
     cases e
    ·
     cases e
     refine ⟨i+1,by simp only;rw [w64 (by omega) (by omega)];omega,by omega,by simp only [aW,dY,gB];omega,?_,w1,?_⟩
     ·
      intro h5
      rcases w2 with ⟨h4,_⟩ | ⟨_,t,rfl,_⟩
      ·
       omega
      ·
       have:=hl5 h5
       simp only [aW,dY,gB];omega
     ·
      rcases w2 with ⟨rfl,w2⟩ | ⟨rfl,t,rfl,w2⟩
      ·
       simp only
       rw [aWj (keys:=keys)]
       exact tk.trans w2
      ·
       simp only
       rw [aWk (by rw [hl5 rfl,hl])]
       exact tk.trans w2
   ·
    rintro ⟨i0,k0,r0,items,keys⟩ x ⟨i,hi,hin,hl,hl5,w,tk⟩ hb
    simp only at hi hin hl hl5 w tk
    subst hi
    rcases aIF ih hk w hb with ⟨hge,e⟩ | ⟨_,_,_,_,e,w1,w2⟩ | ⟨hlt,v,k',r',keys',e,w1,w2⟩
    ·
     cases e
     exact ⟨w,tk,by simp only;omega⟩
    ·
     cases e
     exact ⟨w1,w2⟩
    ·
     cases e
   ·
    have:E2 kd [] []=[]:=by unfold E2;split <;> rfl
    simp only [this]
    exact aKP _
  cases x7 with
  | done y =>
   simp only [Fl.next,bH] at h
   subst h
   exact ⟨key.1,fun rest hr=>absurd hr (key.2 rest)⟩
  | go j =>
   obtain ⟨k0,r0,items,keys⟩:=j
   simp only [Fl.next,bH,fQ] at h
   obtain ⟨rfl,rfl,rfl⟩:=h
   obtain ⟨q1,q2,q3⟩:=key
   simp only at q1 q2 q3
   refine ⟨q1,fun rest hr=>⟨rfl,?_⟩⟩
   have:=a1 _ (q2 rest hr)
   rw [← q3] at this
   exact this
theorem k45 (K:Int):(cond (decide (K=(4:Int))) (some (decide (K=(4:Int)))) (some (decide (K=(5:Int)))))=some (decide (K=4∨K=5)):=by
 by_cases h4:K=4 <;> by_cases h5:K=5 <;> simp [h4,h5]
theorem aQC:∀ n:Nat,aQI (eE n):=by
 intro n
 induction n using Nat.strongRecOn with
 | _ n ih =>
  intro d k r v k' r' hv h
  cases n with
  | zero=>rw [eE] at h;cases h
  | succ m =>
   rw [eE] at h
   obtain ⟨⟨t,r1⟩,h1,h'⟩:=eF h
   clear h
   have h:=h'
   clear h'
   obtain ⟨w1,a1,b1⟩:=aGM hv h1
   cases t with
   | false =>
    simp only [cH,bS,bH,fQ] at h
    obtain ⟨rfl,rfl,rfl⟩:=h
    exact ⟨w1,fun rest hr=>by cases b1 rest hr⟩
   | true =>
    obtain ⟨_,e1⟩:=a1 rfl
    subst e1
    simp only [bE,aZ] at h
    obtain ⟨⟨K,r2⟩,h2,h'⟩:=eF h
    clear h
    have h:=h'
    clear h'
    obtain ⟨w2,a2⟩:=xT hv h2
    obtain ⟨⟨t2,r3⟩,h3,h'⟩:=eF h
    clear h
    have h:=h'
    clear h'
    obtain ⟨w3,a3,b3⟩:=aGM w2 h3
    cases t2 with
    | false =>
     simp only [cH,bS,bH,fQ] at h
     obtain ⟨rfl,rfl,rfl⟩:=h
     exact ⟨w3,fun rest hr=>by cases b3 rest hr⟩
    | true =>
     obtain ⟨cK,e3⟩:=a3 rfl
     subst e3
     simp only [bE,aZ] at h
     obtain ⟨x,hx,h⟩:=eF h
     have hK:0≤K∧K≤5:=by
      by_cases h0:0≤K
      ·
       by_cases h9:K≤5
       ·
        exact ⟨h0,h9⟩
       ·
        simp [h0,h9] at cK
      ·
       simp [h0] at cK
     have key:(∃ v k' r',x=.done (v,k',r')∧Vld r'∧∀ rest,At r' rest→v.Kind=K∧At r3 (aHs v++rest))∨∃ r4 i s,x=.go (r4,i,s)∧Vld r4∧∀ rest,At r4 rest→At r3 (aHs ⟨K,i,s,[],[]⟩++rest):=by
      rw [dF] at hx
      by_cases hK1:K=1
      ·
       rw [aT hK1] at hx
       obtain ⟨⟨i,r4⟩,e1,hx⟩:=eF hx
       obtain ⟨⟨t,r5⟩,e2,hx⟩:=eF hx
       obtain ⟨u1,u2⟩:=xT w3 e1
       obtain ⟨u3,u4,u5⟩:=aGM u1 e2
       simp only [bH] at hx
       refine .inr ⟨_,_,_,hx.symm,u3,fun rest hr=>?_⟩
       obtain ⟨_,e5⟩:=u4 (u5 rest hr)
       subst e5
       have:=u2 rest hr
       unfold aHs
       rw [aT (.inl hK1)]
       exact this
      rw [aQ hK1,dF] at hx
      by_cases hK2:K=2
      ·
       rw [aT hK2] at hx
       obtain ⟨⟨i,r4⟩,e1,hx⟩:=eF hx
       obtain ⟨u1,u2⟩:=xT w3 e1
       simp only [bH] at hx
       refine .inr ⟨_,_,_,hx.symm,u1,fun rest hr=>?_⟩
       have:=u2 rest hr
       unfold aHs
       rw [aT (.inr (.inl hK2))]
       exact this
      rw [aQ hK2,dF] at hx
      by_cases hK3:K=3
      ·
       rw [aT hK3] at hx
       obtain ⟨⟨s,r4⟩,e1,hx⟩:=eF hx
       obtain ⟨⟨t,r5⟩,e2,hx⟩:=eF hx
       obtain ⟨u1,u2⟩:=aCK w3 e1
       obtain ⟨u3,u4,u5⟩:=aGM u1 e2
       simp only [bH] at hx
       refine .inr ⟨_,_,_,hx.symm,u3,fun rest hr=>?_⟩
       obtain ⟨_,e5⟩:=u4 (u5 rest hr)
       subst e5
       have:=u2 rest hr
       unfold aHs
       rw [aQ (by simp only;omega),aT hK3]
       exact this
      rw [aQ hK3,k45,aA,dF] at hx
      by_cases hK4:K=4∨K=5
      ·
       rw [aT hK4] at hx
       obtain ⟨⟨v5,k5,r5⟩,e1,hy⟩:=eF hx
       cases m with
       | zero=>rw [gV] at e1;cases e1
       | succ p =>
        obtain ⟨u1,u2⟩:=aP6 (ih p (by omega)) hK4 w3 e1
        simp only [bH] at hy
        refine .inl ⟨_,_,_,hy.symm,u1,fun rest hr=>?_⟩
        obtain ⟨z1,z2⟩:=u2 rest hr
        refine ⟨z1,?_⟩
        unfold aHs
        simp only [z1]
        rw [aQ (by omega),aQ (by omega)]
        unfold E2 at z2
        rcases hK4 with h4 | h5
        ·
         rw [aT h4] at z2 ⊢
         rw [dD];exact z2
        ·
         rw [aQ (by omega)] at z2
         rw [aQ (by omega),aT h5,dD];exact z2
      ·
       rw [aQ hK4] at hx
       simp only [bH] at hx
       refine .inr ⟨_,_,_,hx.symm,w3,fun rest hr=>?_⟩
       unfold aHs
       rw [aQ (by simp only;omega),aQ (by simp only;omega),aQ (by simp only;omega),aQ (by simp only;omega)]
       exact hr
     rcases key with ⟨v5,k5,r5,rfl,u1,u2⟩ | ⟨r4,i,s,rfl,u1,u2⟩
     ·
      simp only [Fl.next,bH,fQ] at h
      obtain ⟨rfl,rfl,rfl⟩:=h
      refine ⟨u1,fun rest hr=>?_⟩
      obtain ⟨z1,z2⟩:=u2 rest hr
      rw [aKS,z1,dD]
      exact a2 _ z2
     ·
      simp only [Fl.next,bH,fQ] at h
      obtain ⟨rfl,rfl,rfl⟩:=h
      refine ⟨u1,fun rest hr=>?_⟩
      rw [aKS,dD]
      exact a2 _ (u2 rest hr)
theorem aPV {r r':aM}{v:aF} (hv:Vld r) (h:rP r=some (v,r')):Vld r'∧aC6 r r' (sQ v):=by
 unfold rP at h
 obtain ⟨x1,h1,h⟩:=eF h
 obtain ⟨e,h2,h1⟩:=eF h1
 rw [dF] at h1
 by_cases he:e=1
 ·
  rw [aT he] at h1
  cases h1
  simp only [Fl.next,bH,fQ] at h
  obtain ⟨rfl,rfl⟩:=h
  exact ⟨hv,fun rest hr=>by rw [uP hr] at h2;cases h2;omega⟩
 ·
  rw [aQ he] at h1
  cases h1
  simp only [Fl.next] at h
  obtain ⟨⟨v2,k2,r2⟩,h3,h⟩:=eF h
  obtain ⟨n,h3⟩:=qN h3
  obtain ⟨w1,w2⟩:=aQC n _ _ _ _ _ _ hv h3
  obtain ⟨e2,h4,h⟩:=eF h
  rw [uI] at h
  by_cases h0:e2=0
  ·
   rw [aT h0] at h
   simp only [bH,fQ] at h
   obtain ⟨rfl,rfl⟩:=h
   exact ⟨w1,w2⟩
  ·
   rw [aQ h0] at h
   simp only [bH,fQ] at h
   obtain ⟨rfl,rfl⟩:=h
   exact ⟨w1,fun rest hr=>by rw [uP hr] at h4;cases h4;omega⟩
theorem aMR {n:Int}{r0:aM}{i:Int}{r:aM}{l:List (List UInt8)}{st:dN (Int × aM × (List (List UInt8))) (aM × (List (List UInt8)))} (hv:Vld r) (h:jT (n,r0) (i,r,l)=some st) :
  (st=.out (r,l)∧∀ rest,At r rest→¬i<n)∨(i<n∧∃ t r',st=.next (IntKind.i64.wrap (i+1),r',l++[t])∧(l.length+1)*16≤140737488355328∧Vld r'∧aC6 r r' (uZ t)):=by
 unfold jT at h
 simp only at h
 obtain ⟨x,hx,h⟩:=eF h
 rw [dF] at hx
 by_cases hi:i<n
 ·
  rw [aT hi] at hx
  obtain ⟨e,e1,hx⟩:=eF hx
  rw [dF] at hx
  by_cases he:e=0
  ·
   rw [aT he] at hx
   cases hx
   simp only [Fl.next] at h
   obtain ⟨⟨t,r'⟩,e2,h⟩:=eF h
   obtain ⟨l',e3,h⟩:=eF h
   obtain ⟨hb,rfl⟩:=aBO e3
   simp only [bH] at h
   obtain ⟨w1,w2⟩:=aCK hv e2
   exact .inr ⟨hi,t,r',h.symm,hb,w1,w2⟩
  ·
   rw [aQ he] at hx
   cases hx
   simp only [Fl.next,bH] at h
   exact .inl ⟨h.symm,fun rest hr=>absurd (by rw [uP hr] at e1;cases e1;rfl) he⟩
 ·
  rw [aQ hi] at hx
  cases hx
  simp only [Fl.next,bH] at h
  exact .inl ⟨h.symm,fun _ _=>hi⟩
theorem aRF {n:Int}{r0 r r':aM}{l:List (List UInt8)} (hv:Vld r) (h:fI (jT (n,r0)) ((0:Int),r,([]:List (List UInt8)))=some (r',l)) :
  Vld r'∧aC6 r r' (l.flatMap uZ)∧∀ rest,At r' rest→0≤n→(l.length:Int)=n:=by
 refine aMD (fun s:Int × aM × List (List UInt8)=>∃ i:Nat,s.1=(i:Int)∧s.2.2.length=i∧(i=0∨(i:Int)≤n)∧Vld s.2.1∧aC6 r s.2.1 (s.2.2.flatMap uZ)) (fun x:aM × List (List UInt8)=>Vld x.1∧aC6 r x.1 (x.2.flatMap uZ)∧∀ rest,At x.1 rest→0≤n→(x.2.length:Int)=n) ?_ ?_ ⟨0,rfl,rfl,.inl rfl,hv,aKP r⟩ h
 ·
  rintro ⟨i0,q,m⟩ s' ⟨i,hi,hl,hn,w,tk⟩ hb
  simp only at hi hl hn w tk
  subst hi
  rcases aMR w hb with ⟨e,_⟩ | ⟨hlt,t,q',e,hbd,w1,w2⟩
  ·
   cases e
  ·
   cases e
   refine ⟨i+1,by simp only;rw [w64 (by omega) (by omega)];omega,by simp only [aW,dY,gB];omega,.inr (by omega),w1,?_⟩
   simp only [kU,iW,pC,mZ]
   exact tk.trans w2
 ·
  rintro ⟨i0,q,m⟩ x ⟨i,hi,hl,hn,w,tk⟩ hb
  simp only at hi hl hn w tk
  subst hi
  rcases aMR w hb with ⟨e,hend⟩ | ⟨hlt,t,q',e,hbd,w1,w2⟩
  ·
   cases e
   exact ⟨w,tk,fun rest hr h0=>by have:=hend rest hr;simp only;omega⟩
  ·
   cases e
theorem aNW {r r':aM}{o:bV} (hv:Vld r) (h:kW r=some (o,r')):Vld r'∧∀ rest,At r' rest→At r (aGe o++rest)∧mQ o=some true:=by
 unfold kW at h
 obtain ⟨⟨q,r0⟩,h0,h⟩:=eF h
 obtain ⟨_,_,h⟩:=eF h
 obtain ⟨⟨n1,r1⟩,h1,h⟩:=eF h
 obtain ⟨⟨n2,r2⟩,h2,h⟩:=eF h
 obtain ⟨⟨n3,r3⟩,h3,h⟩:=eF h
 obtain ⟨⟨n4,r4⟩,h4,h⟩:=eF h
 obtain ⟨⟨n5,r5⟩,h5,h⟩:=eF h
 obtain ⟨⟨n6,r6⟩,h6,h⟩:=eF h
 obtain ⟨⟨n7,r7⟩,h7,h⟩:=eF h
 obtain ⟨⟨n8,r8⟩,h8,h⟩:=eF h
 obtain ⟨⟨n9,r9⟩,h9,h⟩:=eF h
 obtain ⟨r10,g1,h⟩:=eF h
 obtain ⟨⟨r11,fl⟩,g2,h⟩:=eF h
 obtain ⟨r12,g3,h⟩:=eF h
 obtain ⟨e,g4,h⟩:=eF h
 obtain ⟨v0,t0⟩:=aCK hv h0
 obtain ⟨v1,t1⟩:=aBC v0 h1
 obtain ⟨v2,t2⟩:=aBC v1 h2
 obtain ⟨v3,t3⟩:=aBC v2 h3
 obtain ⟨v4,t4⟩:=aBC v3 h4
 obtain ⟨v5,t5⟩:=aBC v4 h5
 obtain ⟨v6,t6⟩:=aBC v5 h6
 obtain ⟨v7,t7⟩:=aBC v6 h7
 obtain ⟨v8,t8⟩:=aBC v7 h8
 obtain ⟨v9,t9⟩:=aBC v8 h9
 obtain ⟨v10,t10⟩:=aFn (by decide) v9 g1
 obtain ⟨v11,t11,z11⟩:=aRF v10 g2
 obtain ⟨v12,t12⟩:=aFn (by decide) v11 g3
 rw [uI] at h
 by_cases he:e=0
 ·
  rw [aT he] at h
  simp only [bH,fQ] at h
  obtain ⟨rfl,rfl⟩:=h
  refine ⟨v12,fun rest hr=>?_⟩
  obtain ⟨rfl,hR⟩:=t12 rest hr
  have a10:=t11 rest hr
  obtain ⟨rfl,hin⟩:=t10 _ a10
  rw [tW] at hin
  have h0n:0≤n9:=by
   have:=eU hin
   unfold inB at this
   simp only [aY,cB] at this
   exact this.1
  have hlen:=z11 rest hr h0n
  subst hlen
  have:=t0 _ (t1 _ (t2 _ (t3 _ (t4 _ (t5 _ (t6 _ (t7 _ (t8 _ (t9 _ a10)))))))))
  refine ⟨?_,hR⟩
  unfold aGe
  simp only [dD]
  exact this
 ·
  rw [aQ he] at h
  simp only [bH,fQ] at h
  obtain ⟨rfl,rfl⟩:=h
  exact ⟨v12,fun rest hr=>by rw [uP hr] at g4;cases g4;omega⟩
theorem aPU {r r':aM}{x:bW} (hx:gN x) (hv:Vld r) (h:mN r=some (x,r')):Vld r'∧∀ rest,At r' rest→At r (aA9 x++rest)∧rM x=true:=by
 unfold mN at h
 obtain ⟨⟨n1,r1⟩,h1,h⟩:=eF h
 obtain ⟨⟨n2,r2⟩,h2,h⟩:=eF h
 obtain ⟨⟨n3,r3⟩,h3,h⟩:=eF h
 obtain ⟨⟨n4,r4⟩,h4,h⟩:=eF h
 obtain ⟨⟨n5,r5⟩,h5,h⟩:=eF h
 obtain ⟨⟨n6,r6⟩,h6,h⟩:=eF h
 obtain ⟨⟨n7,r7⟩,h7,h⟩:=eF h
 obtain ⟨⟨s8,r8⟩,h8,h⟩:=eF h
 obtain ⟨⟨s9,r9⟩,h9,h⟩:=eF h
 obtain ⟨⟨v,r10⟩,h10,h⟩:=eF h
 obtain ⟨⟨o,r11⟩,h11,h⟩:=eF h
 obtain ⟨r12,g1,h⟩:=eF h
 obtain ⟨e,g2,h⟩:=eF h
 obtain ⟨v1,t1⟩:=xT hv h1
 obtain ⟨v2,t2⟩:=xT v1 h2
 obtain ⟨v3,t3⟩:=xT v2 h3
 obtain ⟨v4,t4⟩:=xT v3 h4
 obtain ⟨v5,t5⟩:=xT v4 h5
 obtain ⟨v6,t6⟩:=xT v5 h6
 obtain ⟨v7,t7⟩:=xT v6 h7
 obtain ⟨v8,t8⟩:=aCK v7 h8
 obtain ⟨v9,t9⟩:=aCK v8 h9
 obtain ⟨v10,t10⟩:=aPV v9 h10
 obtain ⟨v11,t11⟩:=aNW v10 h11
 obtain ⟨v12,t12⟩:=aFn (by decide) v11 g1
 rw [uI] at h
 by_cases he:e=0
 ·
  rw [aT he] at h
  simp only [bH,fQ] at h
  obtain ⟨rfl,rfl⟩:=h
  refine ⟨v12,fun rest hr=>?_⟩
  obtain ⟨rfl,hR⟩:=t12 rest hr
  obtain ⟨a11,hP⟩:=t11 rest hr
  rw [xE hx] at hR
  have hR:=eU hR
  obtain ⟨p1,p2⟩:=aBD hR
  have q3:=(aBJ p1).2.2
  have:=t1 _ (t2 _ (t3 _ (t4 _ (t5 _ (t6 _ (t7 _ (t8 _ (t9 _ (t10 _ a11)))))))))
  refine ⟨?_,hR⟩
  simp only at p1 p2 q3
  unfold aA9 uQ
  simp only
  rw [aT q3,aT p2]
  simp only [iW,pC,mZ,dD]
  exact this
 ·
  rw [aQ he] at h
  simp only [bH,fQ] at h
  obtain ⟨rfl,rfl⟩:=h
  exact ⟨v12,fun rest hr=>by rw [uP hr] at g2;cases g2;omega⟩
theorem aUf {r:aM}{l m:List UInt8} (h:At r l) (k:At r m):l=m:=by
 obtain ⟨b,a,_,_,rfl,h5⟩:=h
 obtain ⟨b',a',_,_,k3,k5⟩:=k
 simp only [aM.mk.injEq] at k3
 obtain ⟨rfl,k4,_⟩:=k3
 obtain rfl:a=a':=by omega
 rw [← h5,← k5]
theorem aKv {r r':aM}{x low high:Int}{rest:List UInt8} (hv:Vld r) (h:eC low high r=some (x,r')) (hr:At r' rest):low≤x∧x≤high:=by
 obtain ⟨b,a,e,hb,ha,rfl⟩:=hv
 by_cases he:e=0
 ·
  subst he
  rw [aFt ha hb] at h
  cases h
  by_cases h0:(kJ (b.drop a) low high).2.2=0
  ·
   exact aIb h0
  ·
   exact absurd hr (aBs (by omega))
 ·
  have:eC low high ⟨b,a,e,true⟩=some (0,⟨b,a,e,true⟩):=by unfold eC;rw [vH];simp [he]
  rw [this] at h
  cases h
  exact absurd hr (aBs he)
theorem aQm {l:List UInt8}{low high:Int} (h:(kJ l low high).2.2≠0):(kJ l low high).1=0:=by
 unfold kJ at h ⊢
 split
 ·
  rfl
 ·
  rename_i w n hs
  rw [hs] at h
  simp only at h ⊢
  split
  ·
   rfl
  ·
   rename_i hc
   rw [aQ hc] at h
   exact absurd rfl h
theorem aID {e e':Int}{r r':aM}{w w':aV}{x low high:Int} (hl:lT e r w) (hl':lT e' r' w') (h:eC low high r=some (x,r')) (he:e'≠0):x=0:=by
 obtain ⟨b,a,hb,ha,rfl,rfl⟩:=hl
 by_cases h0:e=0
 ·
  subst h0
  rw [aFt ha hb] at h
  cases h
  obtain ⟨b',a',_,_,h3,_⟩:=hl'
  unfold aA7 at h3
  simp only [aM.mk.injEq] at h3
  have:=h3.2.2.1
  exact aQm (by omega)
 ·
  have:eC low high ⟨b,a,e,true⟩=some (0,⟨b,a,e,true⟩):=by unfold eC;rw [vH];simp [h0]
  rw [this] at h
  cases h
  rfl
theorem lT.vld {e:Int}{r:aM}{w:aV} (h:lT e r w):Vld r:=by obtain ⟨b,a,hb,ha,rfl,_⟩:=h;exact ⟨b,a,e,hb,ha,rfl⟩
theorem aVB {e:Int}{r:aM}{w:aV}{l:List UInt8} (h:lT e r w) (k:At r l):e=0:=by
 have:=(sM h).1
 rw [uP k] at this
 exact (eU this).symm
theorem aUn {e:Int}{r:aM}{w:aV} (h:lT e r w):∃ x,pH r=some x∧sE w=some x∧(x=0→At r []):=by
 obtain ⟨b,a,hb,ha,rfl,rfl⟩:=h
 unfold pH sE
 rw [aFp,show kS ⟨true,if e=0 then b.drop a else [],e⟩=some e from rfl]
 by_cases he:e=0
 ·
  subst he
  have e2:(if (0:Int)=0 then b.drop a else [])=b.drop a:=aT rfl
  rw [e2]
  simp only [aA,bC,bE,aZ,gK]
  rw [dF,dF]
  by_cases hlt:a<b.length
  ·
   rw [aT (by omega),aT (by omega)];exact ⟨3,rfl,rfl,fun h=>absurd h (by decide)⟩
  ·
   rw [aQ (by omega),aQ (by omega)];exact ⟨0,rfl,rfl,fun _=>⟨b,a,hb,ha,rfl,pJ (by omega)⟩⟩
 ·
  refine ⟨e,by simp [he],by simp [he],fun h=>absurd h he⟩
noncomputable def unP (B:List UInt8):Option ((List bW) × Int):=(yC B).bind fun (x23:aM)=>(((eC (0:Int) (2000:Int) x23).bind fun (x28:(Int × aM))=>((fI (kY x28) ((([]:(List bW)),(0:Int),x28.2))):Option ((List bW) × aM)).bind fun (x30:((List bW) × aM))=>(some (x30.1,x30.2))):Option ((List bW) × aM)).bind fun (x25:((List bW) × aM))=>((pH x25.2).bind fun (x46:Int)=>cond (!decide (x46=(0:Int))) (some (([]:(List bW)),x46)) (some (x25.1,(0:Int))))
noncomputable def unR (B:List UInt8):Option ((List bW) × Int):=(zH B).bind fun (x22:aV)=>(iL (0:Int) (2000:Int) x22).bind fun (x24:(Int × aV))=>((fI (nI x24) ((([]:(List bW)),(0:Int),x24.2))):Option ((List bW) × aV)).bind fun (x26:((List bW) × aV))=>((sE x26.2).bind fun (x47:Int)=>cond (!decide (x47=(0:Int))) (some (([]:(List bW)),x47)) (some (x26.1,(0:Int))))
def UnQ (k:Int) (r1:aM) (x:(List bW) × aM) (y:(List bW) × aV):Prop :=
 ∃ e,x.1=y.1∧lT e x.2 y.2∧zU 272 gN x.1∧∀ rest,At x.2 rest→0≤k→(x.1.length:Int)=k∧x.1.all rM=true∧At r1 (x.1.flatMap aA9++rest)
theorem aTz {k e:Int}{r q0:aM}{w q1:aV} (h:lT e r w) (hk:k≤2000) (hz:e≠0→k=0):∃ x y,fI (kY (k,q0)) (([]:List bW),(0:Int),r)=some x∧fI (nI (k,q1)) (([]:List bW),(0:Int),w)=some y∧UnQ k r x y:=by
 refine aIN (fun (s:(List bW) × Int × aM) (t:(List bW) × Int × aV)=>∃ (i:Nat) (l:List bW) (s2:aM) (t2:aV) (e:Int),s=(l,(i:Int),s2)∧t=(l,(i:Int),t2)∧lT e s2 t2∧l.length=i∧(i=0∨(i:Int)≤k)∧(e≠0→¬(i:Int)<k)∧(∀ x∈l,gN x)∧∀ rest,At s2 rest→l.all rM=true∧At r (l.flatMap aA9++rest))
  (fun s=>(k - s.2.1).toNat) (UnQ k r) ?_ _ _ ⟨0,[],r,w,e,rfl,rfl,h,rfl,.inl rfl,fun he=>by have:=hz he;omega,by simp,fun rest hr=>⟨rfl,hr⟩⟩
 rintro s t ⟨i,l,s2,t2,e,rfl,rfl,hl,hlen,hik,hez,hok,hat⟩
 have hend:∀ {i:Nat}{l:List bW}{t2:aV},¬(i:Int)<k→nI (k,q1) (l,(i:Int),t2)=some (.out (l,t2)):=fun hn=>by
  unfold nI
  simp only
  rw [dF,aQ hn];rfl
 by_cases hlt:(i:Int)<k
 ·
  have he0:e=0:=oD fun hne=>hez hne hlt
  subst he0
  obtain ⟨x,e',r',w',d1,d2,d3,d4,-,-,d7⟩:=aMu hl
  have hw:IntKind.i64.wrap ((i:Int)+1)=((i+1:Nat):Int):=by rw [w64 (by omega) (by omega)];omega
  have g2:nI (k,q1) (l,(i:Int),t2)=some (.next (l++[x],((i+1:Nat):Int),w')):=by
   unfold nI
   simp only
   rw [dF,aT hlt,(sM hl).2,aA]
   simp only [bC,bS,aA,Fl.next]
   rw [d2,aA,oQ (by simp only [dY,gB];omega),aA,hw]
  have g1:kY (k,q0) (l,(i:Int),s2)=some (if e'=0 then .next (l++[x],((i+1:Nat):Int),r') else .out (l++[x],r')):=by
   unfold kY
   simp only
   rw [dF,aT hlt,d1,aA,oQ (by simp only [dY,gB];omega),aA,(sM d3).1,aA,hw,uI]
   split <;> rfl
  have hok':∀ y∈l++[x],gN y:=fun y hy=>by
   rcases fA.1 hy with hy | hy
   ·
    exact hok y hy
   ·
    rw [jZ.1 hy];exact d4
  by_cases he':e'=0
  ·
   rw [aT he'] at g1
   refine .inl ⟨_,_,g1,g2,⟨i+1,l++[x],r',w',e',rfl,rfl,d3,by simp [hlen],.inr (by omega),fun hne=>absurd he' hne,hok',fun rest hr=>?_⟩,by simp only;omega⟩
   obtain ⟨c1,c2⟩:=aPU d4 hl.vld d1
   obtain ⟨c3,c4⟩:=c2 rest hr
   obtain ⟨c5,c6⟩:=hat _ c3
   refine ⟨by simp [c5,c4],?_⟩
   simp only [kU,iW,pC,mZ,dD]
   exact c6
  ·
   rw [aQ he'] at g1
   refine .inr ⟨_,(l++[x],w'),g1,?_,e',rfl,d3,⟨by simp only [aW,dY,gB];omega,by simp only [aW,dY,gB];omega,hok'⟩,fun rest hr=>absurd (aVB d3 hr) he'⟩
   rw [jU g2]
   refine xG ?_
   unfold nI
   simp only
   by_cases hn:((i+1:Nat):Int)<k
   ·
    rw [dF,aT hn,(sM d3).2,aA,kA he']
    rfl
   ·
    rw [dF,aQ hn];rfl
 ·
  refine .inr ⟨(l,s2),(l,t2),?_,xG (hend hlt),e,rfl,hl,⟨by simp only;omega,by simp only;omega,hok⟩,fun rest hr h0=>?_⟩
  ·
   unfold kY
   simp only
   rw [dF,aQ hlt]
  ·
   obtain ⟨c5,c6⟩:=hat _ hr
   exact ⟨by simp only;omega,c5,c6⟩
theorem aTy {B:List UInt8} (hB:B.length≤1000000):∃ l e,unP B=some (l,e)∧unR B=some (l,e)∧zU 272 gN l∧(e=0→l.length≤2000∧l.all rM=true∧B=wZ l):=by
 obtain ⟨r0,w0,o1,o2,o3⟩:=aO8 (b:=B) (by omega)
 obtain ⟨r0',o4,o5⟩:=aOU (b:=B) (by omega)
 rw [o1] at o4
 cases o4
 obtain ⟨k,e1,r1,w1,a1,b1,h1,k1,-,-⟩:=aBW 0 2000 o3
 have hk:k≤2000:=by
  by_cases he:e1=0
  ·
   subst he
   have hat:∃ l,At r1 l:=by
    obtain ⟨b,a,hb,ha,rfl,_⟩:=h1
    exact ⟨_,b,a,hb,ha,rfl,rfl⟩
   obtain ⟨l,hl⟩:=hat
   exact (aKv o3.vld a1 hl).2
  ·
   have:=aID o3 h1 a1 he
   omega
 obtain ⟨⟨l,r2⟩,⟨l2,w2⟩,m1,m2,e,q1,q2,q3,q4⟩:=aTz (q0:=r1) (q1:=w1) h1 hk (fun he=>aID o3 h1 a1 he)
 simp only at q1 q2 q3 q4
 subst q1
 obtain ⟨x,n1,n2,n3⟩:=aUn q2
 unfold unP unR
 rw [o1,aA,o2,aA,a1,aA,b1,aA]
 simp only
 rw [m1,m2,aA,aA,aA]
 simp only
 rw [n1,n2,aA]
 by_cases hx:x=0
 ·
  subst hx
  refine ⟨l,0,by simp,by simp,q3,fun _=>?_⟩
  have hat:=n3 rfl
  have h0:0≤k:=by
   by_cases he:e1=0
   ·
    subst he
    obtain ⟨b,a,hb,ha,rfl,_⟩:=h1
    exact (aKv o3.vld a1 ⟨b,a,hb,ha,rfl,rfl⟩).1
   ·
    have:=aID o3 h1 a1 he
    omega
  obtain ⟨q5,q6,q7⟩:=q4 _ hat h0
  refine ⟨by omega,q6,?_⟩
  obtain ⟨_,t1⟩:=xT o3.vld a1
  have:=t1 _ q7
  rw [← q5,mZ] at this
  exact aUf o5 this
 ·
  exact ⟨[],x,by simp [hx],by simp [hx],⟨by simp,by simp,by simp⟩,fun h=>absurd h hx⟩
theorem aHU {n:Nat}{x:UInt8} (hn:n<256):UInt8.ofNat n=x↔(n:Int)=(x.toNat:Int):=by
 constructor
 ·
  rintro rfl
  rw [UInt8.toNat_ofNat'];omega
 ·
  intro h
  have:n=x.toNat:=by omega
  rw [this]
  exact UInt8.ofNat_toNat
theorem aVC {T:List UInt8} (h:T.length=4):∃ a b c d,T=[a,b,c,d]:=by
 match T,h with
 | [a,b,c,d],_=>exact ⟨a,b,c,d,rfl⟩
theorem aPk {B:List UInt8}{a b c d:UInt8}:[a,b,c,d]=aBu B↔(((cb (crc B) 24:Nat):Int)=(a.toNat:Int)∧((cb (crc B) 16:Nat):Int)=(b.toNat:Int)∧((cb (crc B) 8:Nat):Int)=(c.toNat:Int)∧((cb (crc B) 0:Nat):Int)=(d.toNat:Int)):=by
 unfold aBu
 rw [eq_comm]
 simp only [List.cons.injEq,and_true]
 rw [aHU (aDQ _ _),aHU (aDQ _ _),aHU (aDQ _ _),aHU (aDQ _ _)]
noncomputable def unG (f:List UInt8→Option ((List bW) × Int)) (b:List UInt8):Option ((List bW) × Int) :=
 if b.length<4 then some ([],4) else if b.drop (b.length - 4)=aBu (b.take (b.length - 4)) then f (b.take (b.length - 4)) else some ([],5)
theorem aNu {b:List UInt8} (hb:b.length≤1000000000):kX b=unG unP b:=by
 unfold kX unG
 by_cases h4:b.length<4
 ·
  rw [jS (by omega),bS,aT h4]
 ·
  have hw:IntKind.wrap .i64 ((b.length:Int) - 4)=((b.length - 4:Nat):Int):=by rw [w64 (by omega) (by omega)];omega
  rw [kA (by omega),aZ,aQ h4,hw,kD,aIc (by omega),aA,aEd (by rw [jK];omega),aA,aEP (by omega),aA]
  have hT:(b.drop (b.length - 4)).length=4:=by rw [gK];omega
  obtain ⟨x1,x2,x3,x4,e⟩:=aVC hT
  rw [e]
  rw [show aKO 4 [x1,x2,x3,x4]=some () from rfl,aA,show lO [x1,x2,x3,x4] (0:Int)=some x1 from rfl,aA,show lO [x1,x2,x3,x4] (1:Int)=some x2 from rfl,aA,show lO [x1,x2,x3,x4] (2:Int)=some x3 from rfl,aA,show lO [x1,x2,x3,x4] (3:Int)=some x4 from rfl,aA]
  simp only
  generalize b.take (b.length - 4)=B
  have hd:(decide (((cb (crc B) 24:Nat):Int)=(x1.toNat:Int))&&(decide (((cb (crc B) 16:Nat):Int)=(x2.toNat:Int))&&(decide (((cb (crc B) 8:Nat):Int)=(x3.toNat:Int))&&(decide (((cb (crc B) 0:Nat):Int)=(x4.toNat:Int))&&true))))=decide ([x1,x2,x3,x4]=aBu B):=by
   rw [eZ]
   simp only [aY,cB,and_true]
   exact aPk.symm
  rw [hd]
  by_cases hs:[x1,x2,x3,x4]=aBu B
  ·
   rw [aT hs,jS hs,bE,aZ,aA]
   rfl
  ·
   rw [aQ hs,kA hs,cH,bS]
theorem aJZ {b:List UInt8} (hb:b.length≤1000000000):yT b=unG unR b:=by
 unfold yT unG
 by_cases h4:b.length<4
 ·
  rw [w64 (by omega) (by omega),jS (by omega),bS,aT h4]
 ·
  have hw:IntKind.wrap .i64 ((b.length:Int) - 4)=((b.length - 4:Nat):Int):=by rw [w64 (by omega) (by omega)];omega
  have hT:(b.drop (b.length - 4)).length=4:=by rw [gK];omega
  obtain ⟨x1,x2,x3,x4,e⟩:=aVC hT
  have hl:fI (uX b) ((0:Int),(0:Int))=some ([x1,x2,x3,x4].foldl (fun (c:Int) (x:UInt8)=>IntKind.wrap .i64 (IntKind.wrap .i64 (256*c)+IntKind.wrap .i64 ((x.toNat:Nat):Int))) 0):=by
   refine aCP [x1,x2,x3,x4] _ 0 (fun s i hi=>?_) (fun s=>?_)
   ·
    unfold uX
    rw [hw,kD,e]
    simp only
    rw [dF,aT (by simp only [dY,gB] at hi ⊢;omega),iT hi,aA,pW hi (by simp)]
   ·
    unfold uX
    rw [hw,kD,e]
    simp only
    rw [dF,aQ (by omega)]
  rw [hl,hw,kA (by omega),aZ,aQ h4,kD,aEP (by omega),aA,aA,aIc (by omega),aA,aOu (by rw [jK];omega),aA,e]
  generalize b.take (b.length - 4)=B
  have l1:=x1.toNat_lt
  have l2:=x2.toNat_lt
  have l3:=x3.toNat_lt
  have l4:=x4.toNat_lt
  have hf:[x1,x2,x3,x4].foldl (fun (c:Int) (x:UInt8)=>IntKind.wrap .i64 (IntKind.wrap .i64 (256*c)+IntKind.wrap .i64 ((x.toNat:Nat):Int))) 0=((16777216*x1.toNat+65536*x2.toNat+256*x3.toNat+x4.toNat:Nat):Int):=by
   have st:∀ (c:Nat) (x:UInt8),c≤1000000000→IntKind.wrap .i64 (IntKind.wrap .i64 (256*(c:Int))+IntKind.wrap .i64 ((x.toNat:Nat):Int))=((256*c+x.toNat:Nat):Int):=fun c x hc=>by
    have:=x.toNat_lt
    rw [w64 (x:=256*(c:Int)) (by omega) (by omega),w64 (x:=((x.toNat:Nat):Int)) (by omega) (by omega),w64 (by omega) (by omega)];omega
   simp only [oH,List.foldl_nil]
   have s1:=st 0 x1 (by omega)
   simp only [rF] at s1
   rw [s1,st _ x2 (by omega),st _ x3 (by omega),st _ x4 (by omega)]
   omega
  rw [hf]
  have hlt:=(crc B).isLt
  have hd:decide (((16777216*x1.toNat+65536*x2.toNat+256*x3.toNat+x4.toNat:Nat):Int)=((crc B).toNat:Int))=decide ([x1,x2,x3,x4]=aBu B):=by
   rw [eZ]
   simp only [cB]
   rw [aPk]
   simp only [cb,show (2:Nat) ^ 24=16777216 from rfl,show (2:Nat) ^ 16=65536 from rfl,show (2:Nat) ^ 8=256 from rfl,show (2:Nat) ^ 0=1 from rfl]
   omega
  rw [hd]
  by_cases hs:[x1,x2,x3,x4]=aBu B
  ·
   rw [aT hs,jS hs,bE,aZ,aA]
   rfl
  ·
   rw [aQ hs,kA hs,cH,bS]
theorem aF2 {α:Type} (f:α→List UInt8):∀ {l:List α}{x:α},x∈l→(f x).length≤(l.flatMap f).length
 | [],x,h=>by simp at h
 | y :: l,x,h=>by
  simp only [iW,aW]
  rcases eQ.1 h with rfl | h
  ·
   omega
  ·
   have:=aF2 f h;omega
theorem aPS {l:List bW} (h:zU 272 gN l) (hr:l.all rM=true) (hb:(wZ l).length≤1000000):bok l:=by
 refine ⟨h,fun e he=>?_,fun _=>by omega⟩
 have h1:=aF2 aA9 he
 have h2:=(aBD (cI.1 hr e he)).1
 have h3:=(aBJ h2).2.2
 have h4:=aDB e.Name
 have h5:=aDB e.Key
 unfold wZ at hb
 simp only [aW] at hb
 generalize (l.flatMap aA9).length=F at hb h1
 unfold aA9 at h1
 rw [aT h3] at h1
 simp only [aW] at h1
 exact ⟨by omega,by omega,by omega⟩
theorem aUR {l:List bW}{e:Int} (h:zU 272 gN l):fI (nJ (l,e) (l,e)) (0:Int)=some (.go ()):=by
 rw [oC l.length (fun _=>true) false (fun i hi=>?_) ?_]
 ·
  simp
 ·
  unfold nJ
  rw [dF,aQ (by simp only;omega)]
 ·
  unfold nJ
  rw [dF,aT (by simp only;omega),iT hi,aA,aA,aDy (h.2.2 _ (bZ hi)),aFq,aA,pW hi h.1]
  rfl
theorem aDY (b:List UInt8):oW b=some true:=by
 unfold oW
 by_cases hb:(3000:Int)<b.length
 ·
  rw [jS hb,bS,aIg];rfl
 ·
  rw [kA hb,aZ,aNu (by omega),aJZ (by omega)]
  have key:∃ l e,unG unP b=some (l,e)∧unG unR b=some (l,e)∧zU 272 gN l∧(e=0→oF l=some (b,0)):=by
   unfold unG
   by_cases h4:b.length<4
   ·
    rw [aT h4,aT h4];exact ⟨[],4,rfl,rfl,aOg,fun h=>absurd h (by decide)⟩
   ·
    rw [aQ h4,aQ h4]
    by_cases hs:b.drop (b.length - 4)=aBu (b.take (b.length - 4))
    ·
     rw [aT hs,aT hs]
     obtain ⟨l,e,a1,a2,a3,a4⟩:=aTy (B:=b.take (b.length - 4)) (by rw [jK];omega)
     refine ⟨l,e,a1,a2,a3,fun he=>?_⟩
     obtain ⟨c1,c2,c3⟩:=a4 he
     have hlen:(wZ l).length≤1000000:=by rw [← c3,jK];omega
     rw [aFS (aPS a3 c2 hlen)]
     unfold aDd
     rw [aQ (by omega),c2,aT rfl,← c3,← hs,jM]
    ·
     rw [aQ hs,aQ hs];exact ⟨[],5,rfl,rfl,aOg,fun h=>absurd h (by decide)⟩
  obtain ⟨l,e,a1,a2,a3,a4⟩:=key
  rw [a1,a2,aA,aA]
  simp only [bC,bE,aZ]
  rw [aUR a3,aA]
  simp only [Fl.next]
  by_cases he:e=0
  ·
   rw [a4 he,aA,aN5 (by omega),aIg]
   subst he
   rfl
  ·
   rw [kA he,aIg];rfl

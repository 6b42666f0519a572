/- Plain laws: what the functions compute, with no program in sight. -/
import Derived.Test.YtnigjppddilpcaaGreatDoorGEPP4
import Derived.Test.YtnigjppddilpcaaGreatDoorGEF14
import Derived.Test.YtnigjppddilpcaaGreatDoorGEF16
namespace Go.Proofs.YtnigjppddilpcaaGreatDoor
open Go Abs
set_option linter.unusedSimpArgs false
set_option linter.unusedVariables false
theorem yY {r r':aD}{x:Int} (hv:uY r) (h:fN r=some (x,r')):uY r'∧tS r r' (iO x):=by
 unfold fN at h
 obtain ⟨⟨y,s⟩,h1,h⟩:=aG h
 simp only [Option.some.injEq,Prod.mk.injEq] at h
 obtain ⟨rfl,rfl⟩:=h
 exact aBp hv h1
theorem aCw {r r':aD}{x:List UInt8} (hv:uY r) (h:hS r=some (x,r')):uY r'∧tS r r' (jY x):=by
 unfold hS at h
 obtain ⟨⟨y,s⟩,h1,h⟩:=aG h
 simp only [Option.some.injEq,Prod.mk.injEq] at h
 obtain ⟨rfl,rfl⟩:=h
 exact vX hv h1
theorem aIA {r r':aD}{c:aP} (hv:uY r) (h:iX r=some (c,r')):uY r'∧tS r r' (sO c):=by
 unfold iX at h
 obtain ⟨⟨n1,r1⟩,h1,h⟩:=aG h
 obtain ⟨⟨n2,r2⟩,h2,h⟩:=aG h
 obtain ⟨⟨n3,r3⟩,h3,h⟩:=aG h
 obtain ⟨⟨n4,r4⟩,h4,h⟩:=aG h
 obtain ⟨⟨n5,r5⟩,h5,h⟩:=aG h
 obtain ⟨⟨v,r6⟩,h6,h⟩:=aG h
 obtain ⟨⟨o,r7⟩,h7,h⟩:=aG h
 obtain ⟨r8,g1,h⟩:=aG h
 obtain ⟨e,g2,h⟩:=aG h
 obtain ⟨v1,t1⟩:=qI hv h1
 obtain ⟨v2,t2⟩:=qI v1 h2
 obtain ⟨v3,t3⟩:=vX v2 h3
 obtain ⟨v4,t4⟩:=vX v3 h4
 obtain ⟨v5,t5⟩:=qI v4 h5
 obtain ⟨v6,t6⟩:=aG1 v5 h6
 obtain ⟨v7,t7⟩:=aJ8 v6 h7
 obtain ⟨v8,t8⟩:=yZ (by decide) v7 g1
 rw [qJ] at h
 by_cases he:e=0
 ·
  rw [if_pos he] at h
  simp only [Option.some.injEq,Prod.mk.injEq] at h
  obtain ⟨rfl,rfl⟩:=h
  refine ⟨v8,fun rest hr=>?_⟩
  obtain ⟨rfl,hR⟩:=t8 rest hr
  have:=t1 _ (t2 _ (t3 _ (t4 _ (t5 _ (t6 _ (t7 rest hr).1)))))
  unfold sO
  simp only [List.append_assoc]
  exact this
 ·
  rw [if_neg he] at h
  simp only [Option.some.injEq,Prod.mk.injEq] at h
  obtain ⟨rfl,rfl⟩:=h
  exact ⟨v8,fun rest hr=>by rw [mD hr] at g2;cases g2;omega⟩
theorem aJq {n:Int}{r0:aD}{i:Int}{r:aD}{l:List aP}{st:bS ((List aP) × Int × aD) ((List aP) × aD)} (hv:uY r) (h:bF (n,r0) (l,i,r)=some st) :
  (st=.out (l,r)∧∀ rest,At r rest→¬i<n)∨(i<n∧∃ t r',st=.next (l++[t],IntKind.i64.wrap (i+1),r')∧(l.length+1)*240≤140737488355328∧uY r'∧tS r r' (sO t)):=by
 unfold bF at h
 simp only at h
 obtain ⟨x,hx,h⟩:=aG h
 rw [bE] at hx
 by_cases hi:i<n
 ·
  rw [if_pos hi] at hx
  obtain ⟨e,e1,hx⟩:=aG hx
  rw [bE] at hx
  by_cases he:e=0
  ·
   rw [if_pos he] at hx
   cases hx
   simp only [Fl.next] at h
   obtain ⟨⟨t,r'⟩,e2,h⟩:=aG h
   obtain ⟨l',e3,h⟩:=aG h
   obtain ⟨hb,rfl⟩:=vU e3
   simp only [Option.some.injEq] at h
   obtain ⟨w1,w2⟩:=aIA hv e2
   exact .inr ⟨hi,t,r',h.symm,hb,w1,w2⟩
  ·
   rw [if_neg he] at hx
   cases hx
   simp only [Fl.next,Option.some.injEq] at h
   exact .inl ⟨h.symm,fun rest hr=>absurd (by rw [mD hr] at e1;cases e1;rfl) he⟩
 ·
  rw [if_neg hi] at hx
  cases hx
  simp only [Fl.next,Option.some.injEq] at h
  exact .inl ⟨h.symm,fun _ _=>hi⟩
theorem aNO {n:Int}{r0 r r':aD}{l:List aP} (hv:uY r) (h:dL (bF (n,r0)) (([]:List aP),(0:Int),r)=some (l,r')) :
  uY r'∧tS r r' (l.flatMap sO)∧∀ rest,At r' rest→0≤n→(l.length:Int)=n:=by
 refine aFw (fun s:List aP × Int × aD=>∃ i:Nat,s.2.1=(i:Int)∧s.1.length=i∧(i=0∨(i:Int)≤n)∧uY s.2.2∧tS r s.2.2 (s.1.flatMap sO)) (fun x:List aP × aD=>uY x.2∧tS r x.2 (x.1.flatMap sO)∧∀ rest,At x.2 rest→0≤n→(x.1.length:Int)=n) ?_ ?_ ⟨0,rfl,rfl,.inl rfl,hv,aDM r⟩ h
 ·
  rintro ⟨m,i0,q⟩ s' ⟨i,hi,hl,hn,w,tk⟩ hb
  simp only at hi hl hn w tk
  subst hi
  rcases aJq w hb with ⟨e,_⟩ | ⟨hlt,t,q',e,hbd,w1,w2⟩
  ·
   cases e
  ·
   cases e
   refine ⟨i+1,by simp only;rw [w64 (by omega) (by omega)];omega,by simp only [List.length_append,List.length_cons,List.length_nil];omega,.inr (by omega),w1,?_⟩
   simp only [List.flatMap_append,List.flatMap_cons,List.flatMap_nil,List.append_nil]
   exact tk.trans w2
 ·
  rintro ⟨m,i0,q⟩ x ⟨i,hi,hl,hn,w,tk⟩ hb
  simp only at hi hl hn w tk
  subst hi
  rcases aJq w hb with ⟨e,hend⟩ | ⟨hlt,t,q',e,hbd,w1,w2⟩
  ·
   cases e
   exact ⟨w,tk,fun rest hr h0=>by have:=hend rest hr;simp only;omega⟩
  ·
   cases e
theorem aIC {most:Int}{r r':aD}{l:List aP} (hv:uY r) (h:cJ most r=some (l,r')):uY r'∧∀ rest,At r' rest→At r (iO l.length++(l.flatMap sO++rest)):=by
 unfold cJ at h
 obtain ⟨⟨n,r1⟩,h1,h⟩:=aG h
 obtain ⟨r2,g1,h⟩:=aG h
 obtain ⟨⟨m,r3⟩,g2,h⟩:=aG h
 obtain ⟨v1,t1⟩:=yY hv h1
 obtain ⟨v2,t2⟩:=yZ (by decide) v1 g1
 obtain ⟨v3,t3,z3⟩:=aNO v2 g2
 simp only [Option.some.injEq,Prod.mk.injEq] at h
 obtain ⟨rfl,rfl⟩:=h
 refine ⟨v3,fun rest hr=>?_⟩
 have a2:=t3 rest hr
 obtain ⟨rfl,hin⟩:=t2 _ a2
 rw [qE] at hin
 have h0n:0≤n:=by
  have:=Option.some.inj hin
  unfold inB at this
  simp only [Bool.and_eq_true,decide_eq_true_eq] at this
  exact this.1
 have hlen:=z3 rest hr h0n
 subst hlen
 exact t1 _ a2
theorem aOV {r:aD} (hv:uY r) (h:gO r=some 0):At r []:=by
 obtain ⟨b,a,e,hb,ha,rfl⟩:=hv
 unfold gO at h
 rw [aAO,Option.bind_some,qJ] at h
 by_cases he:e=0
 ·
  subst he
  rw [if_pos rfl,bE] at h
  by_cases hlt:((a:Nat):Int)<(b.length:Int)
  ·
   rw [if_pos hlt] at h;cases h
  ·
   exact ⟨b,a,hb,ha,rfl,List.drop_eq_nil_of_le (by omega)⟩
 ·
  rw [if_neg he] at h
  cases h
  exact absurd rfl he
theorem aIB {b:List UInt8}{q:aY} (hb:b.length≤1000000000) (h:hF b=some (q,0)):b=uN q:=by
 unfold hF at h
 obtain ⟨r0',o1,o2⟩:=aKV hb
 obtain ⟨r0,h0,h⟩:=aG h
 have hv:=aNY hb h0
 rw [o1] at h0
 cases h0
 obtain ⟨⟨n1,r1⟩,h1,h⟩:=aG h
 obtain ⟨⟨n2,r2⟩,h2,h⟩:=aG h
 obtain ⟨⟨n3,r3⟩,h3,h⟩:=aG h
 obtain ⟨⟨n4,r4⟩,h4,h⟩:=aG h
 obtain ⟨⟨n5,r5⟩,h5,h⟩:=aG h
 obtain ⟨⟨n6,r6⟩,h6,h⟩:=aG h
 obtain ⟨⟨n7,r7⟩,h7,h⟩:=aG h
 obtain ⟨⟨n8,r8⟩,h8,h⟩:=aG h
 obtain ⟨⟨n9,r9⟩,h9,h⟩:=aG h
 obtain ⟨⟨m1,s1⟩,i1,h⟩:=aG h
 obtain ⟨⟨m2,s2⟩,i2,h⟩:=aG h
 obtain ⟨⟨m3,s3⟩,i3,h⟩:=aG h
 obtain ⟨⟨m4,s4⟩,i4,h⟩:=aG h
 obtain ⟨e,i5,h⟩:=aG h
 obtain ⟨v1,t1⟩:=yY hv h1
 obtain ⟨v2,t2⟩:=yY v1 h2
 obtain ⟨v3,t3⟩:=aCw v2 h3
 obtain ⟨v4,t4⟩:=aCw v3 h4
 obtain ⟨v5,t5⟩:=aCw v4 h5
 obtain ⟨v6,t6⟩:=aCw v5 h6
 obtain ⟨v7,t7⟩:=yY v6 h7
 obtain ⟨v8,t8⟩:=yY v7 h8
 obtain ⟨v9,t9⟩:=yY v8 h9
 obtain ⟨w1,u1⟩:=yY v9 i1
 obtain ⟨w2,u2⟩:=aG1 w1 i2
 obtain ⟨w3,u3⟩:=aIC w2 i3
 obtain ⟨w4,u4⟩:=aCw w3 i4
 rw [qJ] at h
 by_cases he:e=0
 ·
  subst he
  rw [if_pos rfl] at h
  obtain ⟨g,i6,h⟩:=aG h
  cases g with
  | false=>simp at h
  | true =>
   simp only [Bool.not_true,cond_false,Option.some.injEq,Prod.mk.injEq,and_true] at h
   subst h
   have hat:=t1 _ (t2 _ (t3 _ (t4 _ (t5 _ (t6 _ (t7 _ (t8 _ (t9 _ (u1 _ (u2 _ (u3 _ (u4 _ (aOV w4 i5)))))))))))))
   refine aPp o2 ?_
   unfold uN sK uA
   simp only [List.flatMap_cons,List.flatMap_nil,List.append_nil,List.append_assoc] at hat ⊢
   exact hat
 ·
  rw [if_neg he] at h
  simp only [Option.some.injEq,Prod.mk.injEq] at h
  exact absurd h.2 he
theorem aNf (n:Int):1≤(iO n).length:=by
 unfold iO
 by_cases h:zz n<128
 ·
  rw [aAj h];simp
 ·
  rw [aBC h];simp
theorem aIX:∀ (n:Nat) (v:aC),rM v≤n→xE true v=true→nsz v≤(kA v).length:=by
 intro n
 induction n with
 | zero=>intro v h;have:=hD v;omega
 | succ n ih =>
  intro v h hf
  obtain ⟨f1,f2,f3⟩:=aCz hf
  have hh:=hD v
  rw [aB6,aC2,List.length_append]
  have h1:=aNf v.Kind
  have key:∀ l:List aC,(∀ x∈l,nsz x≤(kA x).length)→iZ l≤(l.flatMap kA).length:=by
   intro l
   induction l with
   | nil=>intro _;simp [iZ]
   | cons x l ihl =>
    intro hl
    have a1:=hl x (by simp)
    have a2:=ihl (fun y hy=>hl y (by simp [hy]))
    simp only [iZ,List.flatMap_cons,List.length_append];omega
  have key2:∀ (l:List aC) (ks:List (List UInt8)),ks.length=l.length→(∀ x∈l,nsz x≤(kA x).length)→iZ l≤((l.zip ks).flatMap fun p=>jY p.2++kA p.1).length:=by
   intro l
   induction l with
   | nil=>intro ks _ _;simp [iZ]
   | cons x l ihl =>
    intro ks hk hl
    cases ks with
    | nil=>simp at hk
    | cons k ks =>
     have a1:=hl x (by simp)
     have a2:=ihl ks (by simpa using hk) (fun y hy=>hl y (by simp [hy]))
     simp only [iZ,List.zip_cons_cons,List.flatMap_cons,List.length_append];omega
  have hi:∀ x∈v.Items,nsz x≤(kA x).length:=fun x hx=>ih x (by have:=jI hx;omega) (f3 x hx)
  by_cases h4:v.Kind=4
  ·
   have:=key v.Items hi
   rw [if_neg (by omega),if_neg (by omega),if_pos h4,List.length_append];omega
  by_cases h5:v.Kind=5
  ·
   have:=key2 v.Items v.Keys (f2 h5) hi
   rw [if_neg (by omega),if_neg (by omega),if_neg h4,if_pos h5,List.length_append];omega
  rw [f1 h4 h5]
  simp only [iZ];omega
theorem aD7 {α:Type} (f:α→List UInt8):∀ {l:List α}{x:α},x∈l→(f x).length≤(l.flatMap f).length
 | [],x,h=>by simp at h
 | y :: l,x,h=>by
  simp only [List.flatMap_cons,List.length_append]
  rcases List.mem_cons.1 h with rfl | h
  ·
   omega
  ·
   have:=aD7 f h;omega
theorem aOv {q:aY} (hr:mU q=true) (hl:(uN q).length≤1000000):qsm q:=by
 obtain ⟨p1,p2,p3⟩:=rS hr
 have a1:=tM q.Workflow
 have a2:=tM q.Run
 have a3:=tM q.ID
 have a4:=tM q.Name
 have a5:=tM q.Parent
 have a6:=aIX _ q.Data (Nat.le_refl _) (kZ p1).2.2
 unfold uN sK at hl
 simp only [List.flatMap_cons,List.flatMap_nil,List.append_nil,List.length_append] at hl
 refine ⟨by omega,by omega,by omega,by omega,by omega,by omega,fun c hc=>?_⟩
 have b1:=aD7 sO hc
 have b2:=aIX _ c.Data (Nat.le_refl _) (kZ (rK (List.all_eq_true.1 p3 c hc)).1).2.2
 have b3:(kA c.Data).length≤(sO c).length:=by unfold sO;simp only [List.length_append];omega
 omega
theorem aAz (q:aY) (k:Int) (h:fO q) (hk:lV k) (hb:PV.bulkRow (fX q)+0≤1048576):iY q k=some true:=by
 unfold iY
 by_cases hl:(300:Int)<q.Commands.length
 ·
  rw [decide_eq_true hl,cond_true,aLr];rfl
 ·
  have hs:=aKs (q:=q) (by omega)
  rw [decide_eq_false hl,cond_false,(aCa h hs).1,Option.bind_some,aLr]
  by_cases he:(aEu q).2=0
  ·
   have hq:mU q=true∧¬65536<(uN q).length∧aEu q=(uN q,0):=by
    unfold aEu at he ⊢
    cases hr:mU q
    ·
     rw [hr] at he;simp at he
    ·
     rw [hr,if_pos rfl] at he
     by_cases hlen:65536<(uN q).length
     ·
      rw [if_pos hlen] at he;exact absurd he (by decide)
     ·
      rw [if_pos rfl,if_neg hlen];exact ⟨rfl,hlen,rfl⟩
   obtain ⟨hr,hlen,hE⟩:=hq
   have hB:=zY (s:=[]) h hs hr (by rw [List.append_nil];omega)
   rw [List.append_nil,if_pos rfl] at hB
   rw [hE]
   simp only [decide_true,Bool.not_true,cond_false]
   rw [hB,Option.bind_some,aA2 h]
   simp only [decide_true,Bool.not_true,beq_self_eq_true,gd,if_true,Option.bind_some,cond_false]
   by_cases h0:k<0
   ·
    rw [decide_eq_true h0];rfl
   by_cases h1:((uN q).length:Int)≤k
   ·
    rw [decide_eq_true h1];cases decide (k<0) <;> rfl
   rw [decide_eq_false h0,decide_eq_false h1,cond_false,cond_false,show k=((k.toNat:Nat):Int) by omega,aE1 (by omega),Option.bind_some,Int.toNat_natCast]
   obtain ⟨x,e,a1,-,a3,a4⟩:=aKl (b:=(uN q).take k.toNat) (by rw [List.length_take];omega)
   rw [a1,Option.bind_some]
   by_cases hx:e=0
   ·
    exfalso
    subst hx
    have hxr:=a4 rfl
    have hc:=aIB (by rw [List.length_take];omega) a1
    have hxs:=aOv hxr (by rw [← hc,List.length_take];omega)
    have hsp:uN q=uN x++(uN q).drop k.toNat:=by rw [← hc,List.take_append_drop]
    have hB2:=zY (s:=(uN q).drop k.toNat) a3 hxs hxr (by rw [← hsp];omega)
    rw [← hsp,hB,if_neg (fun hn=>by have:=congrArg List.length hn;simp only [List.length_drop,List.length_nil] at this;omega)] at hB2
    cases hB2
   ·
    simp only [hx,decide_false,Bool.not_false,beq_self_eq_true,if_true,Option.bind_some,cond_true]
  ·
   rw [decide_eq_false he];rfl
end Go.Proofs.YtnigjppddilpcaaGreatDoor

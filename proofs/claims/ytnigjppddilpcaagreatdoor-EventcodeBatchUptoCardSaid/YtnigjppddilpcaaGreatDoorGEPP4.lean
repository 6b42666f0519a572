/- Plain laws: what the functions compute, with no program in sight. -/
import Derived.Test.YtnigjppddilpcaaGreatDoorGEPP0
import Derived.Test.YtnigjppddilpcaaGreatDoorGEF4
import Derived.Test.YtnigjppddilpcaaGreatDoorGEF10
import Derived.Test.YtnigjppddilpcaaGreatDoorGEPP3
import Derived.Test.YtnigjppddilpcaaGreatDoorGEF6
import Derived.Test.YtnigjppddilpcaaGreatDoorGEPP1
import Derived.Test.YtnigjppddilpcaaGreatDoorGEF8
import Derived.Test.YtnigjppddilpcaaGreatDoorGEF13
namespace Go.Proofs.YtnigjppddilpcaaGreatDoor
open Go Abs
set_option linter.unusedSimpArgs false
set_option linter.unusedVariables false
def aKs:BitVec 32:=3988292384#32
def aAj (c:BitVec 32):BitVec 32:=(c >>> 1) ^^^ (if c.toNat % 2=1 then aKs else 0#32)
def aOx (c:BitVec 32):BitVec 32:=aAj (aAj (aAj (aAj (aAj (aAj (aAj (aAj c)))))))
def aKc (c:BitVec 32) (b:List UInt8):BitVec 32:=b.foldl (fun c x=>aOx (c ^^^ BitVec.ofNat 32 x.toNat)) c
def crc (b:List UInt8):BitVec 32:=4294967295#32 ^^^ aKc 4294967295#32 b
theorem aLb (a:BitVec 32):BitVec.ofInt 32 (a.toNat:Int)=a:=by rw [BitVec.ofInt_natCast];simp
theorem w32 {n:Nat} (h:n<4294967296):IntKind.u32.wrap (n:Int)=(n:Int):=by
 simp only [IntKind.wrap,IntKind.bits,IntKind.signed]
 simp
 omega
theorem x32 (a b:BitVec 32):fV .xor .u32 (a.toNat:Int) (b.toNat:Int)=((a ^^^ b).toNat:Int):=by
 show IntKind.u32.wrap ((BitVec.ofInt 32 (a.toNat:Int) ^^^ BitVec.ofInt 32 (b.toNat:Int)).toNat:Int)=_
 rw [aLb,aLb,w32 (a ^^^ b).isLt]
theorem a32 (a:BitVec 32):fV .and .u32 (a.toNat:Int) (1:Int)=((a.toNat % 2:Nat):Int):=by
 show IntKind.u32.wrap ((BitVec.ofInt 32 (a.toNat:Int) &&& BitVec.ofInt 32 ((1#32:BitVec 32).toNat:Int)).toNat:Int)=_
 rw [aLb,aLb,BitVec.toNat_and,show (1#32:BitVec 32).toNat=1 from rfl,Nat.and_one_is_mod,w32 (by omega)]
theorem aRB (c:BitVec 32):(c >>> 1).toNat=c.toNat / 2:=by simp [BitVec.toNat_ushiftRight,Nat.shiftRight_eq_div_pow]
theorem fdn (n k:Nat) {c:Int} (h:c=(k:Int)):Int.fdiv (n:Int) c=((n / k:Nat):Int):=by
 subst h;rw [Int.fdiv_eq_ediv_of_nonneg _ (by omega),Int.natCast_ediv]
theorem aAV {c:BitVec 32}{i:Nat} (hi:i<8):nK ((c.toNat:Int),(i:Int))=some (.next (((aAj c).toNat:Int),((i+1:Nat):Int))):=by
 unfold nK
 rw [cG,if_pos (by simp only;omega),iW (n:=8) hi (by omega),a32]
 have h1:Int.fdiv (c.toNat:Int) (2 ^ (min (Int.toNat (1:Int)) (IntKind.bits .u32)))=((c >>> 1).toNat:Int):=by rw [aRB];exact fdn _ 2 (by decide)
 have h2:IntKind.u32.wrap ((3988292384:Int)*((c.toNat % 2:Nat):Int))=((if c.toNat % 2=1 then aKs else 0#32:BitVec 32).toNat:Int):=by
  rcases Nat.mod_two_eq_zero_or_one c.toNat with h | h
  ·
   rw [h];rfl
  ·
   rw [h];rfl
 simp only [h1,h2,x32]
 rfl
theorem aAW {c:BitVec 32}{i:Nat} (hi:i<8):mC ((c.toNat:Int),(i:Int))=some (.next (((aAj c).toNat:Int),((i+1:Nat):Int))):=by
 unfold mC
 have hlt:=c.isLt
 have h0:Int.tmod (c.toNat:Int) 2=((c.toNat % 2:Nat):Int):=rfl
 have h1:IntKind.u32.wrap (Int.tdiv (c.toNat:Int) 2)=((c >>> 1).toNat:Int):=by
  rw [aRB,show Int.tdiv (c.toNat:Int) 2=((c.toNat / 2:Nat):Int) from rfl,w32 (by omega)]
 rw [cG,if_pos (by simp only;omega),iW (n:=8) hi (by omega)]
 simp only [h0,h1]
 rw [cG]
 by_cases h:c.toNat % 2=1
 ·
  rw [if_pos (by omega),show (3988292384:Int)=(aKs.toNat:Int) from rfl,x32]
  unfold aAj;rw [if_pos h]
 ·
  rw [if_neg (by omega)]
  unfold aAj;rw [if_neg h,BitVec.xor_zero]
theorem aQO {c:BitVec 32}:nK ((c.toNat:Int),((8:Nat):Int))=some (.out (c.toNat:Int)):=by unfold nK;rw [cG,if_neg (by simp only;omega)]
theorem aQP {c:BitVec 32}:mC ((c.toNat:Int),((8:Nat):Int))=some (.out (c.toNat:Int)):=by unfold mC;rw [cG,if_neg (by simp only;omega)]
theorem aOB (c:BitVec 32):dR nK ((c.toNat:Int),(0:Int))=some ((aOx c).toNat:Int):=by
 show dR nK ((c.toNat:Int),((0:Nat):Int))=_
 rw [iV (aAV (by omega)),iV (aAV (by omega)),iV (aAV (by omega)),iV (aAV (by omega)),iV (aAV (by omega)),iV (aAV (by omega)),iV (aAV (by omega)),iV (aAV (by omega))]
 exact aFi aQO
theorem aOC (c:BitVec 32):dR mC ((c.toNat:Int),(0:Int))=some ((aOx c).toNat:Int):=by
 show dR mC ((c.toNat:Int),((0:Nat):Int))=_
 rw [iV (aAW (by omega)),iV (aAW (by omega)),iV (aAW (by omega)),iV (aAW (by omega)),iV (aAW (by omega)),iV (aAW (by omega)),iV (aAW (by omega)),iV (aAW (by omega))]
 exact aFi aQP
theorem aML (c:BitVec 32) (x:UInt8):fV .xor .u32 (c.toNat:Int) (IntKind.wrap .u32 ((x.toNat:Nat):Int))=((c ^^^ BitVec.ofNat 32 x.toNat).toNat:Int):=by
 have hx:=x.toNat_lt
 have h2:(BitVec.ofNat 32 x.toNat).toNat=x.toNat:=by rw [BitVec.toNat_ofNat];omega
 rw [w32 (by omega),← h2,x32,h2]
theorem aIX {b:List UInt8}{c:BitVec 32}{body:Int × Int→Option (cI (Int × Int) Int)} (h:∀ (c:BitVec 32) (i:Nat) (hi:i<b.length),body ((c.toNat:Int),(i:Int))=some (.next (((aOx (c ^^^ BitVec.ofNat 32 b[i].toNat)).toNat:Int),((i+1:Nat):Int))))
  (hout:∀ s,body (s,(b.length:Int))=some (.out s)):dR body ((c.toNat:Int),(0:Int))=some ((aKc c b).toNat:Int):=by
 refine aBh (fun s=>∃ i:Nat,s.2=(i:Int)∧i≤b.length∧s.1=((aKc c (b.take i)).toNat:Int)) (fun s=>b.length - s.2.toNat) (fun _=>((aKc c b).toNat:Int)) ?_ _ ⟨0,rfl,by omega,by simp [aKc]⟩
 rintro ⟨s,i0⟩ ⟨i,hi0,hi,hs⟩
 simp only at hi0 hs
 subst hi0 hs
 by_cases hlt:i<b.length
 ·
  refine .inl ⟨_,h _ i hlt,⟨i+1,rfl,hlt,?_⟩,by simp;omega,rfl⟩
  rw [List.take_succ_eq_append_getElem hlt,aKc,aKc,List.foldl_append]
  rfl
 ·
  obtain rfl:i=b.length:=by omega
  rw [hout,List.take_length]
  exact .inr rfl
theorem aK3 (c:BitVec 32):IntKind.wrap .i64 (fV .xor .u32 (4294967295:Int) (c.toNat:Int))=((4294967295#32 ^^^ c).toNat:Int):=by
 rw [show (4294967295:Int)=((4294967295#32:BitVec 32).toNat:Int) from rfl,x32,w64 (by omega) (by have:=(4294967295#32 ^^^ c).isLt;omega)]
theorem aIQ {b:List UInt8} (hb:b.length≤9223372036854775807):aAF b=some ((crc b).toNat:Int):=by
 unfold aAF
 rw [show (4294967295:Int)=((4294967295#32:BitVec 32).toNat:Int) from rfl,aIX (b:=b) (fun c i hi=>?_) (fun s=>?_),Option.bind_some]
 ·
  exact congrArg some (aK3 _)
 ·
  unfold xR
  rw [cG,if_pos (by simp only;omega),eW hi,Option.bind_some,aML,aOB,Option.bind_some,iW hi hb]
 ·
  unfold xR
  rw [cG,if_neg (by simp only;omega)]
theorem aKx {b:List UInt8} (hb:b.length≤9223372036854775807):yQ b=some ((crc b).toNat:Int):=by
 unfold yQ
 rw [show (4294967295:Int)=((4294967295#32:BitVec 32).toNat:Int) from rfl,aIX (b:=b) (fun c i hi=>?_) (fun s=>?_),Option.bind_some]
 ·
  exact congrArg some (aK3 _)
 ·
  unfold wF
  rw [cG,if_pos (by simp only;omega),eW hi,Option.bind_some,aML,aOC,Option.bind_some,iW hi hb]
 ·
  unfold wF
  rw [cG,if_neg (by simp only;omega)]
def cb (c:BitVec 32) (k:Nat):Nat:=c.toNat / 2 ^ k % 256
def zV (b:List UInt8):List UInt8:=[UInt8.ofNat (cb (crc b) 24),UInt8.ofNat (cb (crc b) 16),UInt8.ofNat (cb (crc b) 8),UInt8.ofNat (cb (crc b) 0)]
theorem w8n (n:Nat):IntKind.u8.wrap (n:Int)=((n % 256:Nat):Int):=by
 simp only [IntKind.wrap,IntKind.bits,IntKind.signed]
 simp
theorem aDR {b:List UInt8} (hb:b.length≤9223372036854775807):jH b=some (aBO.mk (cb (crc b) 24:Nat) (cb (crc b) 16:Nat) (cb (crc b) 8:Nat) (cb (crc b) 0:Nat)):=by
 unfold jH
 rw [aIQ hb,Option.bind_some]
 have e1:Int.fdiv ((crc b).toNat:Int) (2 ^ (min (Int.toNat (24:Int)) (IntKind.bits .i64)))=(((crc b).toNat / 2 ^ 24:Nat):Int):=fdn _ _ (by decide)
 have e2:Int.fdiv ((crc b).toNat:Int) (2 ^ (min (Int.toNat (16:Int)) (IntKind.bits .i64)))=(((crc b).toNat / 2 ^ 16:Nat):Int):=fdn _ _ (by decide)
 have e3:Int.fdiv ((crc b).toNat:Int) (2 ^ (min (Int.toNat (8:Int)) (IntKind.bits .i64)))=(((crc b).toNat / 2 ^ 8:Nat):Int):=fdn _ _ (by decide)
 rw [e1,e2,e3,w8n,w8n,w8n,w8n]
 simp [cb]
theorem aDQ (c:BitVec 32) (k:Nat):cb c k<256:=Nat.mod_lt _ (by omega)
end Go.Proofs.YtnigjppddilpcaaGreatDoor
namespace Go.Proofs.YtnigjppddilpcaaGreatDoor
open Go Abs
set_option linter.unusedSimpArgs false
set_option linter.unusedVariables false
theorem aGk {α:Type} (f:α→List UInt8) (l:List α) (i:Nat):((l.take i).flatMap f).length≤(l.flatMap f).length:=by
 have:l.flatMap f=(l.take i).flatMap f++(l.drop i).flatMap f:=by rw [← List.flatMap_append,List.take_append_drop]
 rw [this,List.length_append];omega
theorem aDV {α τ:Type} (l:List α) (p:α→Bool) (f:α→List UInt8) (z:τ) (a0:List UInt8) {body:List UInt8 × Int→Option (cI (List UInt8 × Int) (Fl τ (List UInt8)))}
  (h:∀ (i:Nat) (hi:i<l.length),body (a0++(l.take i).flatMap f,(i:Int))=some (if p l[i] then .next (a0++(l.take i).flatMap f++f l[i],((i+1:Nat):Int)) else .out (.done z)))
  (hout:∀ a,body (a,(l.length:Int))=some (.out (.go a))):dR body (a0,(0:Int))=some (if l.all p then .go (a0++l.flatMap f) else .done z):=by
 refine aBh (fun s=>∃ i:Nat,s=(a0++(l.take i).flatMap f,(i:Int))∧i≤l.length∧∀ (j:Nat) (hj:j<l.length),j<i→p l[j]=true) (fun s=>l.length - s.2.toNat) (fun _=>(if l.all p then Fl.go (a0++l.flatMap f) else Fl.done z:Fl τ (List UInt8))) ?_ _ ⟨0,by simp,by omega,by omega⟩
 rintro s ⟨i,rfl,hi,hp⟩
 by_cases hlt:i<l.length
 ·
  rw [h i hlt]
  by_cases hpi:p l[i]=true
  ·
   rw [if_pos hpi]
   refine .inl ⟨_,rfl,⟨i+1,?_,hlt,fun j hj hji=>by rcases Nat.lt_succ_iff_lt_or_eq.1 hji with h1 | rfl;exact hp j hj h1;exact hpi⟩,by simp;omega,rfl⟩
   rw [List.take_succ_eq_append_getElem hlt,List.flatMap_append,List.append_assoc]
   simp
  ·
   rw [if_neg hpi,if_neg (fun ha=>hpi (List.all_eq_true.1 ha _ (List.getElem_mem hlt)))]
   exact .inr rfl
 ·
  obtain rfl:i=l.length:=by omega
  rw [hout,List.take_length,if_pos (List.all_eq_true.2 fun x hx=>by obtain ⟨j,hj,rfl⟩:=List.mem_iff_getElem.1 hx;exact hp j hj hj)]
  exact .inr rfl
noncomputable def qI (l:List bI):List UInt8:=jI l.length++l.flatMap rY
theorem aLP {l:List bI} (h:vF 272 dW l) (hb:PV.bulkRows (l.map cD)≤1048576) (hn:l.length≤2000):(qI l).length≤850000000:=by
 have key:∀ m:List bI,(∀ e∈m,dW e)→PV.bulkRows (m.map cD)≤1048576→(m.flatMap rY).length≤400000*m.length+20*PV.bulkRows (m.map cD):=by
  intro m
  induction m with
  | nil=>intro _ _;simp
  | cons e m ih =>
   intro hm hb
   simp only [List.map_cons,PV.bulkRows] at hb ⊢
   have a1:=ih (fun x hx=>hm x (by simp [hx])) (by omega)
   have a2:=aGW (hm e (by simp)) (by omega)
   simp only [List.flatMap_cons,List.length_append,List.length_cons];omega
 have h1:=key l h.2.2 hb
 have h2:=wC (n:=l.length) h.1
 unfold qI
 simp only [List.length_append];omega
theorem sH {n:Nat} (h:n<256):lF (n:Int)=some (UInt8.ofNat n):=by
 unfold lF
 rw [if_pos (by omega)]
 rfl
def bok (l:List bI):Prop:=vF 272 dW l∧(∀ e∈l,aEu e)∧(l.length≤2000→(qI l).length≤900000000)
noncomputable def oQ (l:List bI):List UInt8 × Int:=if 2000<l.length then ([],6) else if l.all lS then (qI l++zV (qI l),0) else ([],11)
theorem aKT {l:List bI} (hb:(qI l).length≤900000000) (i:Nat):(jI l.length++(l.take i).flatMap rY).length≤900000000:=by
 have:=aGk rY l i
 unfold qI at hb
 simp only [List.length_append] at hb ⊢;omega
theorem aCn {l:List bI} (h:bok l):iX l=some (oQ l):=by
 obtain ⟨h1,h2,h3⟩:=h
 unfold iX oQ
 by_cases hn:2000<l.length
 ·
  rw [decide_eq_true (by omega),cond_true,if_pos hn]
 ·
  have hb:=h3 (by omega)
  rw [decide_eq_false (by omega),cond_false,if_neg hn,aB1 (by simp) ⟨by omega,by omega⟩,Option.bind_some,List.nil_append,
   aDV l lS rY (([]:List UInt8),(11:Int)) (jI l.length) (fun i hi=>?_) (fun a=>?_),Option.bind_some]
  ·
   cases hr:l.all lS
   ·
    simp [Fl.next]
   ·
    simp only [if_true,Fl.next]
    have hb':(jI l.length++l.flatMap rY).length≤900000000:=hb
    rw [aDR (by omega),Option.bind_some]
    simp only
    rw [sH (aDQ _ _),Option.bind_some,sH (aDQ _ _),Option.bind_some,sH (aDQ _ _),Option.bind_some,sH (aDQ _ _),Option.bind_some,mZ (by simp only [List.length_cons,List.length_nil];omega)]
    rfl
  ·
   unfold nP
   have he:=h1.2.2 _ (List.getElem_mem hi)
   have ha:=aKT hb i
   have hs:=h2 _ (List.getElem_mem hi)
   rw [cG,if_pos (by simp only;omega),eW hi,Option.bind_some,aAD he,Option.bind_some]
   cases hr:lS l[i]
   ·
    simp
   ·
    rw [Bool.not_true,cond_false,(xP (b:=[]) he hs (by simp)).1,Option.bind_some,List.nil_append,mZ (by have:=aIM he hs;simp only;omega),Option.bind_some,iW hi h1.1]
    simp
  ·
   unfold nP
   rw [cG,if_neg (by simp only;omega)]
theorem aJg {l:List bI} (h:bok l):vO l=some (oQ l):=by
 obtain ⟨h1,h2,h3⟩:=h
 unfold vO oQ
 by_cases hn:2000<l.length
 ·
  rw [decide_eq_true (by omega),cond_true,if_pos hn]
 ·
  have hb:=h3 (by omega)
  rw [decide_eq_false (by omega),cond_false,if_neg hn,aFL (by simp) ⟨by omega,by omega⟩,Option.bind_some,List.nil_append,
   aDV l lS rY (([]:List UInt8),(11:Int)) (jI l.length) (fun i hi=>?_) (fun a=>?_),Option.bind_some]
  ·
   cases hr:l.all lS
   ·
    simp [Fl.next]
   ·
    simp only [if_true,Fl.next]
    have hb':(jI l.length++l.flatMap rY).length≤900000000:=hb
    rw [aKx (by omega),Option.bind_some]
    have hlt:=(crc (jI l.length++l.flatMap rY)).isLt
    have f:∀ k:Nat,0<k→IntKind.wrap .i64 (Int.tdiv ((crc (jI l.length++l.flatMap rY)).toNat:Int) (k:Int))=(((crc (jI l.length++l.flatMap rY)).toNat / k:Nat):Int):=fun k hk=>by
     have hq:=Nat.div_le_self (crc (jI l.length++l.flatMap rY)).toNat k
     rw [show Int.tdiv ((crc (jI l.length++l.flatMap rY)).toNat:Int) (k:Int)=(((crc (jI l.length++l.flatMap rY)).toNat / k:Nat):Int) from rfl]
     generalize (crc (jI l.length++l.flatMap rY)).toNat / k=q at hq ⊢
     exact w64 (by omega) (by omega)
    have f1:=f 16777216 (by omega)
    have f2:=f 65536 (by omega)
    have f3:=f 256 (by omega)
    simp only [Int.cast_ofNat_Int] at f1 f2 f3
    rw [f1,f2,f3]
    have g:∀ n:Nat,IntKind.wrap .u8 (Int.tmod (n:Int) 256)=((n % 256:Nat):Int):=fun n=>by
     rw [show Int.tmod (n:Int) 256=((n % 256:Nat):Int) from rfl,w8n,Nat.mod_mod]
    rw [g,g,g,w8n,sH (Nat.mod_lt _ (by omega)),Option.bind_some,sH (Nat.mod_lt _ (by omega)),Option.bind_some,sH (Nat.mod_lt _ (by omega)),Option.bind_some,sH (Nat.mod_lt _ (by omega)),Option.bind_some,mZ (by simp only [List.length_cons,List.length_nil];omega)]
    have c0:(crc (jI l.length++l.flatMap rY)).toNat % 256=cb (crc (jI l.length++l.flatMap rY)) 0:=by simp [cb]
    rw [c0]
    rfl
  ·
   unfold tQ
   have he:=h1.2.2 _ (List.getElem_mem hi)
   have ha:=aKT hb i
   have hs:=h2 _ (List.getElem_mem hi)
   rw [cG,if_pos (by simp only;omega),eW hi,Option.bind_some,aFF he,Option.bind_some]
   cases hr:lS l[i]
   ·
    simp
   ·
    rw [Bool.not_true,cond_false,(xP he hs (by simp only;omega)).2,Option.bind_some,iW hi h1.1]
    simp
  ·
   unfold tQ
   rw [cG,if_neg (by simp only;omega)]
end Go.Proofs.YtnigjppddilpcaaGreatDoor
namespace Go.Proofs.YtnigjppddilpcaaGreatDoor
open Go Abs
set_option linter.unusedSimpArgs false
set_option linter.unusedVariables false
theorem aPX {r:aT} (h:At r []):oM r=some 0:=by
 obtain ⟨b,a,h1,h2,rfl,h3⟩:=h
 have:¬a<b.length:=fun hh=>by
  have:=congrArg List.length h3
  simp only [List.length_drop,List.length_nil] at this;omega
 unfold oM eV
 simp only [Option.bind_some,decide_true,Bool.not_true,cond_false]
 rw [cG,if_neg (by omega)]
def aMV (e:bI):Prop:=lS e=true∧e.Name.length≤4096∧e.Key.length≤4096∧nsz e.Data≤1200
theorem aLh (B:List UInt8) (n:Nat) (hn:n=B.length):List.take n (B++zV B)=B∧List.drop n (B++zV B)=zV B:=by subst hn;simp
theorem zN {n:Nat} (h:n<256):(n:Int)=((UInt8.ofNat n).toNat:Int):=by
 rw [UInt8.toNat_ofNat']
 omega
theorem aCo {l:List bI} (h:vF 272 dW l) (hn:l.length≤2000) (hb:(qI l).length≤900000000) (he:∀ e∈l,aMV e):gZ (qI l++zV (qI l))=some (l,0):=by
 have h4:(zV (qI l)).length=4:=rfl
 have hlen:(qI l++zV (qI l)).length=(qI l).length+4:=by rw [List.length_append,h4]
 have hw:IntKind.wrap .i64 (((qI l++zV (qI l)).length:Int) - 4)=((qI l).length:Int):=by rw [hlen,w64 (by omega) (by omega)];omega
 unfold gZ
 rw [hw,decide_eq_false (by omega),cond_false,Int.toNat_natCast,(aLh _ _ rfl).1,(aLh _ _ rfl).2,aO6 (by omega),Option.bind_some,aDR (by omega),Option.bind_some,aLg (by omega),Option.bind_some]
 rw [show aJy 4 (zV (qI l))=some () from rfl,Option.bind_some]
 rw [show hG (zV (qI l)) (0:Int)=some (UInt8.ofNat (cb (crc (qI l)) 24)) from rfl,Option.bind_some,show hG (zV (qI l)) (1:Int)=some (UInt8.ofNat (cb (crc (qI l)) 16)) from rfl,Option.bind_some,
  show hG (zV (qI l)) (2:Int)=some (UInt8.ofNat (cb (crc (qI l)) 8)) from rfl,Option.bind_some,show hG (zV (qI l)) (3:Int)=some (UInt8.ofNat (cb (crc (qI l)) 0)) from rfl,Option.bind_some]
 simp only
 rw [decide_eq_true (zN (aDQ _ _)),decide_eq_true (zN (aDQ _ _)),decide_eq_true (zN (aDQ _ _)),decide_eq_true (zN (aDQ _ _))]
 simp only [Bool.and_self,Bool.not_true,cond_false]
 rw [Option.bind_some]
 obtain ⟨r,o1,o2⟩:=aKV (b:=qI l) (by omega)
 rw [o1,Option.bind_some]
 obtain ⟨r1,a1,l1⟩:=sR (low:=0) (high:=2000) (n:=(l.length:Int)) (rest:=l.flatMap rY) o2 ⟨by omega,by omega⟩ (by omega) (by omega)
 rw [a1,Option.bind_some]
 have key:∃ x,dR (lX ((l.length:Int),r1)) (([]:List bI),(0:Int),r1)=some x∧x.1=l∧At x.2 []:=by
  refine rP (fun s=>∃ i:Nat,s.1=l.take i∧s.2.1=(i:Int)∧i≤l.length∧At s.2.2 ((l.drop i).flatMap rY)) (fun s=>l.length - s.2.1.toNat) _ ?_ _ ⟨0,rfl,rfl,by omega,l1⟩
  rintro ⟨acc,i0,r2⟩ ⟨i,ha,hi0,hi,hr⟩
  simp only at ha hi0 hr
  subst ha hi0
  unfold lX
  by_cases hlt:i<l.length
  ·
   obtain ⟨q1,q2,q3,q4⟩:=he _ (List.getElem_mem hlt)
   rw [aBk rY l i hlt] at hr
   obtain ⟨r3,d1,d2⟩:=aE2 hr (h.2.2 _ (List.getElem_mem hlt)) q1 q2 q3 q4
   rw [cG,if_pos (by simp only;omega)]
   simp only
   rw [d1,Option.bind_some,mZ (by simp only [List.length_take,List.length_cons,List.length_nil];omega),Option.bind_some,sQ d2,Option.bind_some]
   refine .inl ⟨_,rfl,⟨i+1,?_,iW hlt (by omega),hlt,d2⟩,by simp only;rw [iW hlt (by omega)];simp only [Int.toNat_natCast];omega⟩
   simp only
   rw [List.take_succ_eq_append_getElem hlt]
  ·
   obtain rfl:i=l.length:=by omega
   rw [cG,if_neg (by simp only;omega)]
   refine .inr ⟨_,rfl,List.take_length,?_⟩
   rw [List.drop_length] at hr
   exact hr
 obtain ⟨⟨m,r4⟩,k1,k2,k3⟩:=key
 simp only at k2 k3
 subst k2
 rw [k1,Option.bind_some,Option.bind_some]
 simp only
 rw [aPX k3]
 simp
theorem aHz {l:List bI} (h:vF 272 dW l) (hb:PV.bulkRows (l.map cD)≤1048576):bok l :=
 ⟨h,fun e he=>aBW (h.2.2 e he) (by have:=aES (row:=cD) he;omega),fun hn=>Nat.le_trans (aLP h hb hn) (by omega)⟩
theorem aKY {l:List bI} (hb:PV.bulkRows (l.map cD)≤1048576) (hr:l.all lS=true) (hs:∀ e∈l,e.Name.length≤500∧e.Key.length≤500):∀ e∈l,aMV e:=fun e he=>by
 have h1:=List.all_eq_true.1 hr e he
 have h2:=aES (row:=cD) he
 have h3:=aI3 _ e.Data (Nat.le_refl _)
 have h4:=aHG e
 obtain ⟨h5,h6⟩:=hs e he
 exact ⟨h1,by omega,by omega,aG4 (zH h1).1 (by omega)⟩
end Go.Proofs.YtnigjppddilpcaaGreatDoor
namespace Go.Proofs.YtnigjppddilpcaaGreatDoor
open Go Abs
set_option linter.unusedSimpArgs false
set_option linter.unusedVariables false
def sch:bI:=bI.mk (2:Int) (2:Int) (5:Int) (0:Int) (0:Int) (1:Int) (0:Int) ([]:List UInt8) ([]:List UInt8) (aC.mk (0:Int) (0:Int) ([]:List UInt8) ([]:(List aC)) ([]:(List (List UInt8)))) (bG.mk ([]:List UInt8) (0:Int) (0:Int) (0:Int) (0:Int) (0:Int) (0:Int) (0:Int) (0:Int) ([]:(List (List UInt8))))
def e00:bI:=bI.mk (0:Int) (0:Int) (0:Int) (0:Int) (0:Int) (0:Int) (0:Int) ([]:List UInt8) ([]:List UInt8) (aC.mk (0:Int) (0:Int) ([]:List UInt8) ([]:(List aC)) ([]:(List (List UInt8)))) (bG.mk ([]:List UInt8) (0:Int) (0:Int) (0:Int) (0:Int) (0:Int) (0:Int) (0:Int) (0:Int) ([]:(List (List UInt8))))
theorem aQt:oH=some sch:=rfl
theorem aPD:cL ⟨0,0,[],[],[]⟩:=(dH _).2 (by simp [rB,okS,vF])
theorem aPC:fH ⟨[],0,0,0,0,0,0,0,0,[]⟩:=by simp [fH,rB,okS,vF]
theorem aQb:dW e00:=⟨by simp [e00,rB],by simp [e00,rB],by simp [e00,rB],by simp [e00,rB],by simp [e00,rB],by simp [e00,rB],by simp [e00,rB],by simp [e00,okS],by simp [e00,okS],aPD,aPC⟩
theorem aKp:dW sch:=⟨by simp [sch,rB],by simp [sch,rB],by simp [sch,rB],by simp [sch,rB],by simp [sch,rB],by simp [sch,rB],by simp [sch,rB],by simp [sch,okS],by simp [sch,okS],aPD,aPC⟩
theorem aPF:[sch].all lS=true:=by decide +kernel
theorem aRt:[e00].all lS=false:=by decide +kernel
theorem aPw:PV.bulkRows ([sch].map cD)≤1048576:=by decide +kernel
theorem aQI:PV.bulkRows ([e00].map cD)≤1048576:=by decide +kernel
theorem aQJ:PV.bulkRows (([]:List bI).map cD)≤1048576:=by decide +kernel
theorem aRi:∀ e∈[sch],e.Name.length≤500∧e.Key.length≤500:=fun e he=>by rw [List.mem_singleton.1 he];decide +kernel
theorem aP7:vF 272 dW []:=⟨by simp,by simp,fun x hx=>by simp at hx⟩
theorem uD:iH=some true:=by
 have h1:oQ [sch]=(qI [sch]++zV (qI [sch]),0):=by unfold oQ;rw [if_neg (by decide),aPF];rfl
 have h2:oQ [e00]=([],11):=by unfold oQ;rw [if_neg (by decide),aRt];rfl
 have h3:oQ []=(qI []++zV (qI []),0):=by unfold oQ;rw [if_neg (by decide)];rfl
 have h4:gZ []=some ([],4):=by unfold gZ;rfl
 have h5:qI []=[0]:=by decide +kernel
 have hb:=aHz (aFp aKp) aPw
 unfold iH
 rw [aQt,Option.bind_some,aCn hb,Option.bind_some,h1]
 simp only
 rw [aCo (aFp aKp) (by decide) (hb.2.2 (by decide)) (aKY aPw aPF aRi),Option.bind_some,h4,Option.bind_some,show bI.mk _ _ _ _ _ _ _ _ _ _ _=e00 from rfl,aCn (aHz (aFp aQb) aQI),Option.bind_some,h2,aCn (aHz aP7 aQJ),Option.bind_some,h3,h5]
 have hS:qD sch sch=some true:=by rw [zT aKp,aBU]
 rw [show hG [sch] (0:Int)=some sch from rfl,show hG ([(0:UInt8)]++zV [0]) (0:Int)=some 0 from rfl]
 simp [gd,hS,show (zV [0]).length=4 from rfl]
end Go.Proofs.YtnigjppddilpcaaGreatDoor
namespace Go.Proofs.YtnigjppddilpcaaGreatDoor
open Go Abs
set_option linter.unusedSimpArgs false
set_option linter.unusedVariables false
theorem aAu (b:List UInt8) (e:bI) (hb:vF 1 (fun _=>True) b) (he:dW e) (hk:PV.bulkRows (b.map dF)+PV.bulkRow (cD e)+0≤1048576):jD b e=some true:=by
 have hl:b.length≤1048576:=by
  have:=aER (row:=dF) (fun x=>by simp [dF,PV.bulkRow,PV.bulk]) b
  omega
 have hs:=aBW he (by omega)
 obtain ⟨e1,e2⟩:=xP (b:=b) he hs (by omega)
 obtain ⟨z,hz⟩:=aMw (aFp he)
 have hlen:=aIM he hs
 unfold jD
 by_cases h1:(50:Int)<(b.length:Int)
 ·
  rw [decide_eq_true h1,cond_true,uD];rfl
 ·
  rw [decide_eq_false h1,cond_false,hz,Option.bind_some]
  cases z
  ·
   simp only [cond_false,Option.bind_some,Fl.next]
   rw [e1,Option.bind_some,e2,Option.bind_some,aE1 (by simp only [List.length_append];omega),Option.bind_some,uD]
   rfl
  ·
   simp only [cond_true]
   rw [uD];rfl
end Go.Proofs.YtnigjppddilpcaaGreatDoor
namespace Go.Proofs.YtnigjppddilpcaaGreatDoor
open Go Abs
set_option linter.unusedSimpArgs false
set_option linter.unusedVariables false
theorem aBr (e:bI) (b:List UInt8) (he:dW e) (hb:vF 1 (fun _=>True) b) (hk:PV.bulkRow (cD e)+PV.bulkRows (b.map dF)+0≤1048576):jY e b=some true:=by
 have hl:b.length≤1048576:=by
  have:=aER (row:=dF) (fun x=>by simp [dF,PV.bulkRow,PV.bulk]) b
  omega
 have hs:=aBW he (by omega)
 obtain ⟨e1,e2⟩:=xP (b:=[]) he hs (by simp)
 obtain ⟨z,hz,hz2⟩:=aC9 (aFp he)
 have hlen:=aGW he (by omega)
 simp only [List.nil_append] at e1
 unfold jY
 by_cases h1:(50:Int)<(b.length:Int)
 ·
  rw [decide_eq_true h1,cond_true,uD];rfl
 ·
  rw [decide_eq_false h1,cond_false,hz,Option.bind_some]
  cases z
  ·
   obtain ⟨n1,n2⟩:=hz2 rfl e (by simp)
   rw [cond_false,aFF he,Option.bind_some]
   cases hr:lS e
   ·
    rw [Bool.not_false,cond_true,uD];rfl
   ·
    have hn:=aG4 (zH hr).1 (by have:=aI3 _ e.Data (Nat.le_refl _);have:=aHG e;have:=aHA (p:=.int .i64 0);omega)
    obtain ⟨r,o1,o2⟩:=aKV (b:=rY e++b) (by simp only [List.length_append];omega)
    obtain ⟨r',d1,d2⟩:=aE2 o2 he hr (by omega) (by omega) hn
    rw [Bool.not_true,cond_false,Option.bind_some]
    simp only [Fl.next]
    rw [e1,Option.bind_some,mZ (by omega),Option.bind_some,o1,Option.bind_some,d1,Option.bind_some,zT he,aBU,Option.bind_some,cond_true,sQ d2,aOs d2,uD]
    simp
  ·
   rw [cond_true,uD];rfl
end Go.Proofs.YtnigjppddilpcaaGreatDoor
namespace Go.Proofs.YtnigjppddilpcaaGreatDoor
open Go Abs
set_option linter.unusedSimpArgs false
set_option linter.unusedVariables false
theorem aRA {l:List bI} (h:vF 272 dW l):dR (iO l (l,0)) (0:Int)=some (.go ()):=by
 rw [iJ l.length (fun _=>true) false (fun i hi=>?_) ?_]
 ·
  simp
 ·
  unfold iO
  rw [cG,if_neg (by omega)]
 ·
  unfold iO
  rw [cG,if_pos (by omega),eW hi,Option.bind_some,Option.bind_some,zT (h.2.2 _ (List.getElem_mem hi)),aBU,Option.bind_some,iW hi h.1]
  rfl
theorem aBp (l:List bI) (h:vF 272 dW l) (hk:PV.bulkRows (l.map cD)+0≤1048576):jX l=some true:=by
 have hbk:=aHz h (by omega)
 obtain ⟨z,hz,hz2⟩:=aC9 h
 unfold jX
 rw [hz,Option.bind_some]
 cases z
 ·
  rw [cond_false,aCn hbk,Option.bind_some,aJg hbk,Option.bind_some]
  have hlen:(oQ l).1.length≤9223372036854775807:=by
   unfold oQ
   split
   ·
    simp
   ·
    split
    ·
     have:=hbk.2.2 (by omega)
     simp only [List.length_append,zV,List.length_cons,List.length_nil];omega
    ·
     simp
  rw [aE1 hlen]
  simp only [decide_true,Bool.not_true,beq_self_eq_true,gd,if_true,Option.bind_some,cond_false]
  by_cases hn:2000<l.length
  ·
   have:oQ l=([],6):=by unfold oQ;rw [if_pos hn]
   rw [this,uD];rfl
  ·
   cases hr:l.all lS
   ·
    have:oQ l=([],11):=by unfold oQ;rw [if_neg hn,hr];rfl
    rw [this,uD];rfl
   ·
    have:oQ l=(qI l++zV (qI l),0):=by unfold oQ;rw [if_neg hn,hr];rfl
    rw [this]
    simp only [decide_true,Bool.not_true,cond_false]
    rw [aCo h (by omega) (hbk.2.2 (by omega)) (aKY (by omega) hr (hz2 rfl)),Option.bind_some]
    simp only [decide_true,Bool.not_true,cond_false]
    rw [aRA h,Option.bind_some]
    simp only [Fl.next]
    rw [uD];rfl
 ·
  rw [cond_true,uD];rfl
end Go.Proofs.YtnigjppddilpcaaGreatDoor

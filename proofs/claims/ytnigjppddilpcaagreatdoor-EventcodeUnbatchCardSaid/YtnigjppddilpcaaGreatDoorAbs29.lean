/- The printed walks' steps: guards whose way is known, parts that may end in any way, types' places. The printed walks' steps: calls that are handed no variable, cells of bytes. The printed walks' steps in regions whose order is drawn. From a law's data to typed values. The printed walks' steps: arrays, and equality of structs. The printed walks' steps: rows that may be stored into, arrays told by slices. The printed walks' steps, in fewer signs. -/
import Derived.Test.YtnigjppddilpcaaGreatDoorAbs24
import Derived.Test.YtnigjppddilpcaaGreatDoorPk1
namespace Go.Proofs.YtnigjppddilpcaaGreatDoor.Abs
open Go
set_option linter.unusedVariables false
set_option linter.unusedSimpArgs false
theorem hH {e w:Bool} (h:e=w):(e==w)=true:=by simp [h]
theorem vF {a b:Bool} (h:a=true) (h2:b=true):(a&&b)=true:=by rw [h,h2];rfl
section
variable {P:Program}{all r:List Oper}{d dj j:Nat}{op:Op}{ty:TypeId}{pos:String}{af:Array Edge}{fr:Fr}{σ:St}{K:Fr→St→Prop}{Kq:Fr→Prop}{v:AV}{b c w:Bool}
end
section
variable {P:Program}{d:Option Tmp}{ty:TypeId}{pos:String}{af:Array Edge}{gd:Option (Nat × Bool)}{ev:Operand→AV}{σ:St}{x y z:Operand}{q p:Bool}
theorem aB1 (hx:ev x=.c (.bool q)) (hq:q=true) (hy:ev y=.c (.bool p)):Pv P ⟨d,.pick x y z,ty,pos,af,gd⟩ ev σ (.c (.bool p)):=fun K h=>by
 subst hq
 (refine .inl ?_;simp only [eD,hx,hy])
 split
 ·
  rename_i e1 e2;cases e1;exact h
 ·
  exact ⟨fun _=>h,fun e=>by cases e⟩
theorem sN (hx:ev x=.c (.bool q)) (hq:q=false) (hz:ev z=.c (.bool p)):Pv P ⟨d,.pick x y z,ty,pos,af,gd⟩ ev σ (.c (.bool p)):=fun K h=>by
 subst hq
 (refine .inl ?_;simp only [eD,hx,hz])
 split
 ·
  rename_i e1 e2;cases e2;exact h
 ·
  exact ⟨(fun e=>by cases e),fun _=>h⟩
end
def aGX (l:List (Nat × Option Nat)) (i:Nat):Option (Nat × Nat):=match l[i]? with | some (o,some n)=>some (o,n) | _=>none
def aCR (P:Program) (t:TypeId):Option (List (Nat × Option Nat)):=match aB9 P t with | some fs=>some (fs.toList.map fun x=>(x.offset,(P.info? x.type).map (·.size))) | _=>none
theorem qQ {P:Program}{t:TypeId}{l:List (Nat × Option Nat)} (h:aCR P t=some l) (i:Nat):qZ P t i=aGX l i:=by
 unfold aCR at h
 unfold qZ aGX
 split at h
 ·
  rename_i fs hf
  cases h
  simp only [hf,cC,dL]
  cases hx:fs[i]? with
  | none=>rfl
  | some x=>simp only [eI];cases P.info? x.type <;> rfl
 ·
  cases h
section
variable {P:Program}{V:List Nat}{k0:Nat}{Q:Exit→Fr→St→Prop}{fr:Fr}{σ:St}{K:Fr→St→Prop}
def aIi (k0:Nat) (Q:Exit→Fr→St→Prop):Prop:=∀ fr σ fr' σ',qJ k0 fr σ fr' σ'→Q .normal fr' σ'→Q .normal fr σ
def kw (P:Program) (V:List Nat) (k0:Nat) (y:Code) (Q:Exit→Fr→St→Prop):Fr→St→Prop:=fun fr σ=>∃ fr' σ',qJ k0 fr σ fr' σ'∧yH P V k0 y Q fr' σ'
theorem aX {x y:Code} (h:yH P V k0 x (aD3 (kw P V k0 y Q) Q) fr σ):yH P V k0 (.seq x y) Q fr σ:=by
 refine aCI x (fun e fr σ he=>?_) h
 cases e with
 | normal=>exact he
 | _=>exact he
theorem dB {y:Code} (h:yH P V k0 y Q fr σ):aD3 (kw P V k0 y Q) Q .normal fr σ:=⟨fr,σ,qJ.refl _ _ _,h⟩
theorem lP {y:Code}{Q':Exit→Fr→St→Prop}:aIi k0 (aD3 (kw P V k0 y Q) Q'):=fun fr σ fr' σ' hw ⟨fr2,σ2,hw2,h⟩=>⟨fr2,σ2,hw.trans hw2,h⟩
theorem aWp {J:Type}{C:J→Prop}{F:J→Fr}{G:J→St}:aIi k0 (aD3 (fun fr σ=>∃ j,C j∧qJ k0 fr σ (F j) (G j)) Q):=fun fr σ fr' σ' hw ⟨j,h1,h2⟩=>⟨j,h1,hw.trans h2⟩
theorem aU3 {id:Nat} (h:aIi k0 Q):aIi k0 (aL7 id Q):=fun fr σ fr' σ' hw h'=>h fr σ fr' σ' hw h'
theorem hF {x:Code}{J:Type} (hQ:aIi k0 Q) (C:J→Prop) (F:J→Fr) (G:J→St) (h:yH P V k0 x (aD3 (fun fr σ=>∃ j,C j∧qJ k0 fr σ (F j) (G j)) Q) fr σ) (h2:∀ j,C j→Q .normal (F j) (G j)):yH P V k0 x Q fr σ :=
 aCI x (fun e fr σ he=>by
  cases e with
  | normal=>obtain ⟨j,h1,h3⟩:=he;exact hQ _ _ _ _ h3 (h2 j h1)
  | _=>exact he) h
theorem lB {J:Type}{C:J→Prop}{F:J→Fr}{G:J→St} (j:J) (h:C j) (hw:qJ k0 fr σ (F j) (G j)):aD3 (fun fr σ=>∃ j,C j∧qJ k0 fr σ (F j) (G j)) Q .normal fr σ:=⟨j,h,hw⟩
end
def aG4 (k:IntKind) (n:Int):List PV:=[.int k n]
def iF (s:List UInt8):List PV:=[.str s]
theorem oL {α:Type}{row:α→List PV}:([]:List (List PV))=([]:List α).map row:=rfl
theorem fR {α:Type}{row:α→List PV}{p:List PV}{ps:List (List PV)}{x:α}{xs:List α} (h:row x=p) (t:ps=xs.map row):p :: ps=(x :: xs).map row:=by simp [h,t]
variable {mo:Bool}
theorem St.dem_upd (f:Nat→Bool) (σ:St) (d:Nat):σ.after [] d []=σ.dem fun t=>t / 16==d:=by simp [St.after,St.upd,aIw]
section
variable {P:Program}{all r:List Oper}{d:Nat}{op:Op}{ty:TypeId}{pos:String}{af:Array Edge}{fr:Fr}{σ:St}{K:Fr→St→Prop}{v:AV}
theorem oN (hv:Ov P ⟨some d,op,ty,pos,af,none⟩ fr σ v) (h:mJ mo P all r ((d,v) :: fr) σ K):mJ mo P all (⟨some d,op,ty,pos,af,none⟩ :: r) fr σ K:=by
 refine tF ?_
 exact hv _ h
theorem cA {gd:Option (Nat × Bool)}{fo:Operand}{args:Array Operand}{ts:Array TypeId}{f:FuncId}{caps as:List AV}{rv:AV} (hf:fr.ev fo=.fn f caps) (hc:cX P f as [] rv []) (ha:leP (AV.lowL [] (args.toList.map fr.ev++caps)) as)
  (hfr:(fr.dem fun t=>t / 16==d)=fr) (hσ:(σ.dem fun t=>t / 16==d)=σ) (hv:rv.lift [] σ.length d=v) :
  Ov P ⟨some d,.call { callee:=.value fo,args:=args,argTypes:=ts },ty,pos,af,gd⟩ fr σ v:=fun K hk=>by
 unfold aop
 simp only [hf,aHd]
 refine ⟨d,[],[],as,[],rv,[],.nil,.nil,by simp,aDg ha,by simp [St.sub];exact .nil,hc,?_⟩
 simp only [eK,aIw,hfr,hv,St.dem_upd (fun _=>true),hσ]
 exact hk
end
theorem aUr {α:Type}{P:Program}{all r:List Oper}{d:Nat}{ty t t2:TypeId}{pos:String}{af:Array Edge}{fr:Fr}{σ:St}{K:Fr→St→Prop}{sz:Nat}{row:α→List PV}{xs:List α}{x:Operand} (ht:kH P t=3) (hx:isl (fr.ev x) sz row xs)
  (h:∀ b:Bool,(b=true→xs=[])→mJ mo P all r ((d,.c (.bool b)) :: fr) σ K):mJ mo P all (⟨some d,.binOp .eql t x (.const (.slice .none 0 0)) t2,ty,pos,af,none⟩ :: r) fr σ K:=by
 refine tF ?_
 have hk:∀ b:Bool,(b=true→xs.map row=[])→mJ mo P all r ((d,.c (.bool (b != false))) :: fr) σ K:=fun b hb=>by
  have:=h b (fun e=>by simpa using hb e)
  simpa using this
 have hn:fr.ev (.const (.slice .none 0 0))=.nil:=rfl
 rcases hx with hx | ⟨t0,hx⟩ <;> simp only [aop,aBV,aND,hx,hn,PV.ls,AV.os] <;> exact ⟨ht,hk⟩
theorem aK8 {n:Int}{x:UInt8} (h:vG n=some x):gW x=[.int .u8 n]:=by rw [aHk h];rfl
theorem cO {cs bs:List AV}{σ σ':St} (h:cs=bs) (t:leS σ σ'):leS (cs :: σ) (bs :: σ'):=by subst h;exact .cons (AV.leL_refl _) t
section
variable {k0:Nat}{Q:Exit→Fr→St→Prop}{fr:Fr}{σ:St}
theorem zY {S R:Type}{st:dN S R}{F:S→Fr}{G:S→St} (s:S) (h:st=.next s) (hw:qJ k0 fr σ (F s) (G s)):aD3 (fun fr σ=>∃ s',st=.next s'∧qJ k0 fr σ (F s') (G s')) Q .normal fr σ:=⟨s,h,hw⟩
end
theorem iA {x v w:AV}{ids:List Nat} (h:x=v) (hl:(v.low ids).le w):(x.low ids).le w:=by rw [h];exact hl
theorem yK {P:Program}{o:Oper}{ev:Operand→AV}{σ:St}{p q:PV} (h:Pv P o ev σ (.c p)) (he:p=q):Pv P o ev σ (.c q):=he ▸ h
def aRe (f:Nat→Bool):Fr→Prop
 | []=>True
 | (_,a) :: r=>AV.dem f a=a∧aRe f r
theorem fU {f:Nat→Bool}:aRe f []:=trivial
theorem bG {f:Nat→Bool}{i:Nat}{a:AV}{r:Fr} (h:AV.dem f a=a) (t:aRe f r):aRe f ((i,a) :: r):=⟨h,t⟩
theorem vD {f:Nat→Bool}{c:Bool}{v:AV} (h:AV.dem f v=v):AV.dem f (gv c v)=gv c v:=by
 cases c
 ·
  rfl
 ·
  exact h
theorem iO {f:Nat→Bool}:∀ {fr:Fr},aRe f fr→Fr.dem f fr=fr
 | [],_=>rfl
 | (i,a) :: r,h=>by simp only [Fr.dem,h.1,iO h.2]
end Go.Proofs.YtnigjppddilpcaaGreatDoor.Abs
namespace Go.Proofs.YtnigjppddilpcaaGreatDoor.Abs
open Go
set_option linter.unusedVariables false
set_option linter.unusedSimpArgs false
section
variable {P:Program}{ops:Array Oper}{r:List PI}{i:Nat}{rl:List Nat}{d dj j:Nat}{op:Op}{ty:TypeId}{pos:String}{af:Array Edge}{fr:Fr}{σ:St}{K:Fr→St→Prop}{v:AV}{b c w:Bool}
theorem aQS {o:Oper} (h:Qv P o fr σ v):AQ P o fr.ev σ v:=by
 obtain ⟨u,h1,h2⟩:=aNM (h (fun x=>x=v) rfl)
 rw [← h2];exact h1
theorem aOZ {fr':Fr}{V:List Nat}{Q:Exit→Fr→St→Prop} (hp:prune V fr=fr') (h:Q .normal fr' σ):ad P ops [] fr σ fun fr σ=>hold (Q .normal (prune V fr) σ):=by
 subst hp;exact h
theorem d_q (ho:ops[i]?=some ⟨some d,op,ty,pos,af,none⟩) (hv:Qv P ⟨some d,op,ty,pos,af,none⟩ fr σ v) (h:ad P ops r ((d,v) :: fr) σ K):ad P ops (.q i :: r) fr σ K:=by
 simp only [ad,ho,rA]
 exact ⟨v,aQS hv,h⟩
theorem d_g (ho:ops[i]?=some ⟨some d,op,ty,pos,af,some (j,w)⟩) (hj:aE8 ops.toList j=some dj) (hs:fr.get dj=.c (.bool b)) (hv:(b==w)=true→Qv P ⟨some d,op,ty,pos,af,some (j,w)⟩ fr σ v) (h:ad P ops r ((d,gv (b==w) v) :: fr) σ K):ad P ops (.q i :: r) fr σ K:=by
 simp only [ad,ho]
 refine aSb rfl hj hs (fun e=>?_) (fun e=>?_)
 ·
  have e':(b==w)=true:=by simp [e]
  refine ⟨v,aQS (hv e'),?_⟩
  rw [e',gv,aT rfl] at h
  exact h
 ·
  have e':(b==w)=false:=by simpa using e
  rw [e',gv,aQ (by simp)] at h
  exact h
theorem d_n {o:Oper} (ho:ops[i]?=some o) (h:mJ false P ops.toList [o] fr σ fun fr' σ'=>RC P ops σ' fr' rl∧ad P ops r fr' σ' K) (hg:o.guard=none):ad P ops (.n i rl :: r) fr σ K:=by
 obtain ⟨dst,op,ty,pos,af,guard⟩:=o
 cases hg
 simp only [ad,ho,rA]
 exact h
theorem aAL {all:List Oper} (h:K fr σ):mJ false P all [] fr σ K:=h
theorem pI:RC P ops σ fr []:=trivial
theorem wB {q:Nat} (ho:ops[q]?=some ⟨some d,op,ty,pos,af,none⟩) (hd:fr.get d=v) (hv:Qv P ⟨some d,op,ty,pos,af,none⟩ fr σ v) (t:RC P ops σ fr rl):RC P ops σ fr (q :: rl):=by
 refine ⟨⟨_,d,ho,rfl,?_⟩,t⟩
 rw [hd]
 show AQ P _ _ σ v
 rw [aHW]
 exact aQS hv
end
def aRQ (acc:List Nat) (o:Oper):Nat:=o.after.toList.foldl (fun m e=>if Region.binds .any e then m ||| (1 <<< e.on) ||| acc.getD e.on 0 else m) 0
def aFa:List Oper→List Nat→List Nat
 | [],acc=>acc
 | o :: r,acc=>aFa r (acc++[aRQ acc o])
theorem aIB {acc:List Nat}:∀ (l:List Edge) (m j:Nat),(l.foldl (fun m e=>if Region.binds .any e then m ||| (1 <<< e.on) ||| acc.getD e.on 0 else m) m).testBit j=true→m.testBit j=true∨∃ e∈l,Region.binds .any e=true∧(e.on=j∨(acc.getD e.on 0).testBit j=true)
 | [],m,j,h=>.inl h
 | e :: l,m,j,h=>by
  simp only [oH] at h
  rcases aIB l _ j h with h1 | ⟨e',he',h1⟩
  ·
   cases hb:Region.binds .any e with
   | false=>rw [hb] at h1;simp at h1;exact .inl h1
   | true =>
    rw [hb,aT rfl,Nat.testBit_or,Nat.testBit_or,dJ,dJ] at h1
    rcases h1 with (h1 | h1) | h1
    ·
     exact .inl h1
    ·
     refine .inr ⟨e,by simp,hb,.inl ?_⟩
     rw [Nat.one_shiftLeft,Nat.testBit_two_pow] at h1
     simpa using h1
    ·
     exact .inr ⟨e,by simp,hb,.inr h1⟩
  ·
   exact .inr ⟨e',jB _ he',h1⟩
theorem aGU:∀ (l:List Oper) (acc:List Nat) (i:Nat),i<acc.length→(aFa l acc).getD i 0=acc.getD i 0
 | [],acc,i,h=>rfl
 | o :: r,acc,i,h=>by
  simp only [aFa]
  rw [aGU r _ i (by simp;omega)]
  rw [cG,cG,cT h]
theorem aME:∀ (l:List Oper) (acc:List Nat) (k:Nat) (o:Oper),l[k]?=some o→∃ acc',acc'.length=acc.length+k∧(∀ i,i<acc'.length→acc'.getD i 0=(aFa l acc).getD i 0)∧(aFa l acc).getD (acc.length+k) 0=aRQ acc' o
 | [],acc,k,o,h=>by simp at h
 | x :: r,acc,0,o,h=>by
  simp at h;subst h
  refine ⟨acc,rfl,fun i hi=>?_,?_⟩
  ·
   simp only [aFa]
   rw [aGU r _ i (by simp;omega),cG,cG,cT hi]
  ·
   simp only [aFa,tE]
   rw [aGU r _ _ (by simp)]
   simp [cG]
 | x :: r,acc,k+1,o,h=>by
  simp at h
  obtain ⟨acc',h1,h2,h3⟩:=aME r (acc++[aRQ acc x]) k o h
  refine ⟨acc',by rw [h1];simp;omega,h2,?_⟩
  rw [← h3]
  simp only [aFa]
  congr 1
  simp;omega
theorem aIO {ops:Array Oper} (hord:∀ i,i<ops.size→∃ o,ops[i]?=some o∧∀ e∈o.after,Region.binds .any e=true→e.on<i):∀ (n i j:Nat),i<n→i<ops.size→((aFa ops.toList []).getD i 0).testBit j=true→qS ops n j i=true
 | 0,i,j,h,_,_=>by omega
 | n+1,i,j,h,hi,hb=>by
  obtain ⟨o,ho,hlt⟩:=hord i hi
  obtain ⟨acc',h1,h2,h3⟩:=aME ops.toList [] i o (by rw [dL];exact ho)
  simp only [gB,iX] at h1 h3
  rw [h3] at hb
  rcases aIB o.after.toList 0 j hb with h4 | ⟨e,he,hbe,h4⟩
  ·
   simp at h4
  ·
   have he':e∈o.after:=by simpa using he
   have hel:=hlt e he' hbe
   simp only [qS,ho]
   refine sT.2 ⟨e,he',?_⟩
   simp only [hbe,cL,dJ,oB]
   rcases h4 with h4 | h4
   ·
    exact .inl h4
   ·
    rw [h2 e.on (by omega)] at h4
    exact .inr (aIO hord n e.on j (by omega) (by omega) h4)
abbrev Tab:=List (Option Nat × List Nat)
def aFd (ops:Array Oper):Tab:=ops.toList.map fun o=>(o.dst,o.looksAt ops)
def aIl (tab:Tab) (i j:Nat):Bool:=match tab[i]?,tab[j]? with
 | some (d,_),some (dj,lj)=>(match d with | some d=>!lj.contains d&&(i==j||dj != some d) | _=>true)
 | _,_=>false
def aRt (tab:Tab) (j i:Nat):Bool:=match tab[j]?,tab[i]? with
 | some (dj,_),some (_,li)=>(match dj with | some d=>li.contains d | _=>false)
 | _,_=>true
def aNS (ms:List Nat) (j i:Nat):Bool:=(ms.getD i 0).testBit j
def okT (tab:Tab) (ms:List Nat):List PI→List Nat→Bool
 | [],_=>true
 | it :: r,done =>
  decide (it.ix<tab.length)&&!done.contains it.ix&&(done.all fun j=>!aRt tab j it.ix||aNS ms j it.ix) &&
  (match it with
   | .q i=>(match tab[i]? with | some (some _,_)=>true | _=>false)&&aIl tab i i&&(done.all fun j=>aIl tab i j)
   | .n i rl=>(done.all fun j=>aIl tab i j||aNS ms j i)&&(r.all fun x=>aNS ms i x.ix)&&(done.all fun j=>rl.contains j||aNS ms j i)) &&
  okT tab ms r (it.ix :: done)
def aRw:Nat→List Oper→Bool
 | _,[]=>true
 | i,o :: r=>(o.after.toList.all fun e=>!Region.binds .any e||Nat.blt e.on i)&&aRw (i+1) r
def aRC (ops:Array Oper) (pl:List PI) (tab:Tab) (ms:List Nat):Bool :=
 decide (aFd ops=tab)&&decide (aFa ops.toList []=ms)&&aRw 0 ops.toList&&okT tab ms pl []&&((List.range tab.length).all fun i=>pl.any fun x=>x.ix==i)
theorem aMO:∀ (l:List Oper) (k i:Nat) (o:Oper),aRw k l=true→l[i]?=some o→∀ e∈o.after,Region.binds .any e=true→e.on<k+i
 | [],k,i,o,_,h=>by simp at h
 | x :: r,k,0,o,h,ho=>by
  simp at ho;subst ho
  simp only [aRw,aY] at h
  intro e he hb
  have:=cI.1 h.1 e (by simpa using he)
  simp only [hb,bE,cV] at this
  exact aFm this
 | x :: r,k,i+1,o,h,ho=>by
  simp at ho
  simp only [aRw,aY] at h
  intro e he hb
  have:=aMO r (k+1) i o h.2 ho e he hb
  omega
theorem aGp (ops:Array Oper) (i:Nat):(aFd ops)[i]?=(ops[i]?).map fun o=>(o.dst,o.looksAt ops):=by
 unfold aFd
 rw [cC,dL]
theorem aK6 {ops:Array Oper}{i j:Nat}:aIl (aFd ops) i j=aCv ops i j:=by
 unfold aIl aCv
 rw [aGp,aGp]
 cases ops[i]? <;> cases ops[j]? <;> rfl
theorem aUo {ops:Array Oper}{i j:Nat}:aRt (aFd ops) j i=aEi ops j i:=by
 unfold aRt aEi
 rw [aGp,aGp]
 cases ops[i]? <;> cases ops[j]? <;> rfl
theorem aFX {α:Type}{l:List α}{p q:α→Bool} (h:∀ x∈l,p x=true→q x=true) (hp:l.all p=true):l.all q=true:=cI.2 fun x hx=>h x hx (cI.1 hp x hx)
theorem aPe {ops:Array Oper}{ms:List Nat} (hw:∀ i j,i<ops.size→aNS ms j i=true→qS ops ops.size j i=true):∀ (pl:List PI) (done:List Nat),okT (aFd ops) ms pl done=true→okL ops pl done=true
 | [],_,_=>rfl
 | it :: r,done,h=>by
  simp only [okT,aY] at h
  obtain ⟨⟨⟨⟨h1,h2⟩,h3⟩,h4⟩,h5⟩:=h
  have hlt:it.ix<ops.size:=by have:=fN h1;simpa [aFd] using this
  have hi:∀ {j:Nat},aNS ms j it.ix=true→qS ops ops.size j it.ix=true:=fun hb=>hw _ _ hlt hb
  simp only [okL,aY]
  refine ⟨⟨⟨⟨jS hlt,h2⟩,aFX (fun j _ h=>?_) h3⟩,?_⟩,aPe hw r _ h5⟩
  ·
   rw [aUo,dJ] at h
   rw [dJ]
   exact h.imp id hi
  ·
   cases it with
   | q i =>
    simp only [aY] at h4 ⊢
    refine ⟨⟨?_,by rw [← aK6];exact h4.1.2⟩,aFX (fun j _ h=>by rw [← aK6];exact h) h4.2⟩
    have h6:=h4.1.1
    rw [aGp] at h6
    cases ho:ops[i]? with
    | none=>rw [ho] at h6;cases h6
    | some o =>
     rw [ho] at h6
     simp only [eI] at h6
     split at h6
     ·
      rename_i d l he;simp only [bH,fQ] at he;simp [he.1]
     ·
      cases h6
   | n i rl =>
    have hi:∀ {j:Nat},aNS ms j i=true→qS ops ops.size j i=true:=hi
    simp only [aY] at h4 ⊢
    refine ⟨⟨aFX (fun j _ h=>?_) h4.1.1,aFX (fun x hx h=>?_) h4.1.2⟩,aFX (fun j _ h=>?_) h4.2⟩
    ·
     rw [aK6,dJ] at h
     rw [dJ]
     exact h.imp id hi
    ·
     by_cases hx2:x.ix<ops.size
     ·
      exact hw _ _ hx2 h
     ·
      exfalso
      have key:∀ (l:List PI) (dn:List Nat),okT (aFd ops) ms l dn=true→∀ y∈l,y.ix<ops.size:=by
       intro l
       induction l with
       | nil=>intro dn _ y hy;cases hy
       | cons z l ihl =>
        intro dn hz y hy
        simp only [okT,aY] at hz
        rcases eQ.1 hy with rfl | hy
        ·
         have:=fN hz.1.1.1.1;simpa [aFd] using this
        ·
         exact ihl _ hz.2 y hy
      exact hx2 (key r _ h5 x hx)
    ·
     rw [dJ] at h ⊢
     exact h.imp id hi
theorem aRD {ops:Array Oper}{pl:List PI}{tab:Tab}{ms:List Nat} (h:aRC ops pl tab ms=true):aGY ops pl=true:=by
 simp only [aRC,aY] at h
 obtain ⟨⟨⟨⟨h1,h2⟩,h3⟩,h4⟩,h5⟩:=h
 have h1:=fN h1
 have h2:=fN h2
 subst h1 h2
 have hord:∀ i,i<ops.size→∃ o,ops[i]?=some o∧∀ e∈o.after,Region.binds .any e=true→e.on<i:=fun i hi=>by
  refine ⟨_,eJ hi,fun e he hb=>?_⟩
  have:=aMO ops.toList 0 i _ h3 (by rw [dL];exact eJ hi) e he hb
  omega
 simp only [aGY,aY]
 refine ⟨⟨aPe (fun i j hi hb=>aIO hord ops.size i j hi hi hb) pl [] h4,by simpa [aFd] using h5⟩,cI.2 fun i hi=>?_⟩
 obtain ⟨o,ho,hlt⟩:=hord i (eT.1 hi)
 rw [ho]
 refine Array.all_eq_true'.2 fun e he=>?_
 cases hb:Region.binds .any e with
 | false=>rfl
 | true=>simp [hlt e he hb]
theorem lJ {P:Program}{V:List Nat}{k0:Nat}{Q:Exit→Fr→St→Prop}{fr:Fr}{σ:St} (pl:List PI) (tab:Tab) (ms:List Nat) {id:Nat}{l:List Oper} (hB:aRC l.toArray pl tab ms=true) (h:ad P l.toArray pl fr σ fun fr σ=>hold (Q .normal (prune V fr) σ)):yH P V k0 (.region id l.toArray true) Q fr σ :=
 aUX pl (aRD hB) h
def aUO (P:Program) (t:TypeId):Option (TypeId × Nat):=match P.underlying t with | some (.slice e)=>some (e,P.cellsOf e) | _=>none
def tN (x:Int):Prop:=-9223372036854775808≤x∧x≤9223372036854775807
def okW (k:IntKind) (x:Int):Prop:=(Lit.int k x).wf=true
def okS (s:List UInt8):Prop:=s.length≤140737488351232
def zU {α:Type} (k:Nat) (ok:α→Prop) (xs:List α):Prop:=xs.length≤9223372036854775807∧xs.length*k≤140737488351232∧∀ x∈xs,ok x
section
variable {P:Program}{n:Nat}{t e:TypeId}{ps:List PV}
theorem aUM {k:IntKind} (h:aCa P t=some k) (hs:sH P n t ps):∃ x,ps=[.int k x]∧okW k x:=by
 cases n with
 | zero=>exact hs.elim
 | succ n =>
  have hu:=aDD h
  simp only [sH,hu] at hs
  exact hs
theorem aTW (h:aCa P t=some .u8) (hs:sH P n t ps):∃ x:UInt8,ps=gW x∧True:=by
 obtain ⟨x,h1,h2⟩:=aUM h hs
 unfold okW Lit.wf at h2
 simp only [aY,cB] at h2
 have h4:(0:Int)≤x:=h2.1
 have h5:x≤(255:Int):=h2.2
 have h3:0≤x∧x<256:=⟨h4,by omega⟩
 refine ⟨UInt8.ofNat x.toNat,?_,trivial⟩
 rw [h1]
 unfold gW
 have:((UInt8.ofNat x.toNat).toNat:Int)=x:=by simp;omega
 rw [this]
theorem aPa {α:Type}{row:α→List PV}{ok:α→Prop}:∀ (xs:List (List PV)),(∀ x∈xs,∃ a,x=row a∧ok a)→∃ as:List α,xs=as.map row∧∀ a∈as,ok a
 | [],_=>⟨[],rfl,by simp⟩
 | x :: xs,h=>by
  obtain ⟨a,rfl,ha⟩:=h x (by simp)
  obtain ⟨as,rfl,has⟩:=aPa xs (fun y hy=>h y (by simp [hy]))
  exact ⟨a :: as,rfl,by simpa using ⟨ha,has⟩⟩
theorem aTV {α:Type}{sz k:Nat}{row:α→List PV}{ok:α→Prop} (h:aUO P t=some (e,sz)) (hk:P.bytesOf e=k) (hs:sH P n t ps) (conv:∀ m,m<n→∀ qs,sH P m e qs→∃ a:α,qs=row a∧ok a):∃ xs:List α,ps=[PV.ls sz row xs]∧zU k ok xs:=by
 cases n with
 | zero=>exact hs.elim
 | succ n =>
  unfold aUO at h
  cases hu:P.underlying t with
  | none=>simp [hu] at h
  | some d =>
   cases d <;> simp [hu] at h
   rename_i e'
   obtain ⟨rfl,rfl⟩:=h
   simp only [sH,hu] at hs
   obtain ⟨xs,rfl,hx,hl,hl2⟩:=hs
   rw [hk] at hl2
   obtain ⟨as,rfl,has⟩:=aPa (row:=row) (ok:=ok) xs (fun x hxm=>conv n (by omega) x (hx x hxm))
   exact ⟨as,rfl,by simpa using hl,by simpa using hl2,has⟩
end
def AV.ar {α:Type} (row:α→List PV) (xs:List α):AV:=.agg (AV.cs ((xs.map row).flatten))
theorem aSM (f:Nat→Bool) (l:List PV):AV.demL f (AV.cs l)=AV.cs l:=by rw [AV.demL_eq];simp [AV.cs,AV.dem]
theorem vC {α:Type}{row:α→List PV}{xs:List α}{f:Nat→Bool}:(AV.ar row xs).dem f=AV.ar row xs:=by simp only [AV.ar,AV.dem,aSM]
section
variable {P:Program}{d:Option Tmp}{ty:TypeId}{pos:String}{af:Array Edge}{gd:Option (Nat × Bool)}{ev:Operand→AV}{σ:St}{x y z:Operand}{t t2:TypeId}{k k':IntKind}{a b:Int}{v:AV}
theorem aUu {as bs:List AV}{ks:List Nat}{n:Nat}{r:Bool} (hk:eqK P 40 t=some ks) (ht:lM P t=some (true,n)) (hg:P.eqGuardType P.depth t=false) (hx:ev x=.agg as) (hy:ev y=.agg bs) (hn:ks.length=n) (hr:yL ks as bs=some r) :
 Pv P ⟨d,.binOp .neq t x y t2,ty,pos,af,gd⟩ ev σ (.c (.bool (!r))):=fun K h=>.inr (.inl ⟨_,⟨as,bs,ks,r,hx,hy,hk,by rw [hn];exact ht,hg,hr,.inr ⟨rfl,rfl⟩⟩,h⟩)
theorem aUv {e:TypeId}{sz n:Nat}{ag:Bool}{parts:Array (Nat × Operand)}{rows:List (List PV)}{cs:List AV}{zs:List Value} (hs:List Nat) (ht:aEv P t=some (e,sz,n,ag)) (hz:nE P t=some zs) (hl:zs.length=parts.toList.length*sz) (hr:aBw hs sz ev 0 parts.toList=some rows) (hc:rows.flatten.map AV.c=cs) :
  Pv P ⟨d,.build t parts,ty,pos,af,gd⟩ ev σ (.agg cs):=fun K h=>by
 subst hc
 exact .inr (.inl ⟨_,⟨e,sz,n,ag,hs,_,zs,ht,hz,hl,hr,rfl⟩,h⟩)
def aKO {α:Type} (n:Nat) (xs:List α):Option Unit:=if n≤xs.length∧0<xs.length then some () else none
theorem aOF {α:Type}{n:Nat}{xs:List α}{z:Unit} (h:aKO n xs=some z):n≤xs.length∧0<xs.length:=by
 unfold aKO at h
 split at h
 ·
  assumption
 ·
  cases h
theorem aVH {α:Type}{e:TypeId}{sz n:Nat}{ag:Bool}{row:α→List PV}{xs:List α}{z:Unit} (ht:aEv P t=some (e,sz,n,ag)) (hx:isl (ev x) sz row xs) (hz:aKO n xs=some z):Pv P ⟨d,.sliceToArrayPointer t x,ty,pos,af,gd⟩ ev σ (.eptr ((xs.map row).flatten) 0):=fun K h=>by
 obtain ⟨h1,h2⟩:=aOF hz
 refine .inr (.inl ⟨_,⟨e,sz,n,ag,xs.map row,ht,?_,by simpa using h1,by simpa using h2,rfl⟩,h⟩)
 rcases hx with hx | ⟨t0,hx⟩
 ·
  exact .inl hx
 ·
  exact .inr ⟨t0,hx⟩
theorem aSS {α:Type}{xs:List α}{x0 x1 x2 x3:α} (h0:lO xs 0=some x0) (h1:lO xs 1=some x1) (h2:lO xs 2=some x2) (h3:lO xs 3=some x3):∃ r,xs=x0 :: x1 :: x2 :: x3 :: r:=by
 have g0:=(aBS h0).2.2
 have g1:=(aBS h1).2.2
 have g2:=(aBS h2).2.2
 have g3:=(aBS h3).2.2
 match xs,g0,g1,g2,g3 with
 | a :: b :: c :: d :: r,g0,g1,g2,g3 =>
  simp at g0 g1 g2 g3
  exact ⟨r,by rw [g0,g1,g2,g3]⟩
 | [],g0,_,_,_=>simp at g0
 | [_],_,g1,_,_=>simp at g1
 | [_,_],_,_,g2,_=>simp at g2
 | [_,_,_],_,_,_,g3=>simp at g3
theorem aS4 {xs:List UInt8}{x0 x1 x2 x3:UInt8} (ht:lM P t=some (true,4)) (hx:ev x=.eptr ((xs.map gW).flatten) 0) (h0:lO xs 0=some x0) (h1:lO xs 1=some x1) (h2:lO xs 2=some x2) (h3:lO xs 3=some x3) :
  Pv P ⟨d,.load t x,ty,pos,af,gd⟩ ev σ (.agg [.c (.int .u8 x0.toNat),.c (.int .u8 x1.toNat),.c (.int .u8 x2.toNat),.c (.int .u8 x3.toNat)]):=by
 obtain ⟨r,rfl⟩:=aSS h0 h1 h2 h3
 exact nL (us:=[.int .u8 x0.toNat,.int .u8 x1.toNat,.int .u8 x2.toNat,.int .u8 x3.toNat]) ht hx (by simp [gW,Nat.ble_eq]) (by simp [gW])
end
variable {mo:Bool}
def AV.ms {α:Type} (t sz:Nat) (row:α→List PV) (xs:List α):AV:=.mrow t sz (xs.map row)
section
variable {P:Program}{d:Option Tmp}{ty:TypeId}{pos:String}{af:Array Edge}{gd:Option (Nat × Bool)}{ev:Operand→AV}{σ:St}{x y z:Operand}{t t2:TypeId}{k k':IntKind}{v:AV}
theorem aUB {e:TypeId}{sz n id off:Nat}{ag:Bool} (ht:aEv P t=some (e,sz,n,ag)) (hx:ev x=.box id off):Pv P ⟨d,.slice t x .none .none .none,ty,pos,af,gd⟩ ev σ (.view id off n):=fun K h =>
 .inr (.inr (.inl ⟨_,⟨e,sz,n,ag,id,off,ht,hx,rfl⟩,h⟩))
theorem aPf {n m:Int} (hx:ev x=.c (.int k n)) (hm:(if k.signed then -1 else k.max)=m):Pv P ⟨d,.unOp .xor t x,ty,pos,af,gd⟩ ev σ (.c (.int k (kL .xor k m n))):=fun K h =>
 .inr (.inr (.inl ⟨_,⟨k,n,hx,rfl⟩,by rw [hm];exact h⟩))
end
section
variable {P:Program}{all r:List Oper}{d:Nat}{ty:TypeId}{pos:String}{af:Array Edge}{fr:Fr}{σ:St}{K:Fr→St→Prop}{v:AV}
theorem aWn {o:Oper}{dm:Option (Nat→Bool)}{v:AV}{σ':St} (hp:aAY o=true) (h:axg P o fr.ev σ dm v σ') (hk:K ((fr.demo dm).put o.dst v) σ'):aop P o fr σ K:=wF hp (.inr (.inr (.inr ⟨dm,v,σ',h,hk⟩)))
theorem aUq {α:Type}{s x:Operand}{t tx e:TypeId}{sz by_ t0 id off m:Nat}{row:α→List PV}{xs ys zs:List α}{cs us:List AV} (ht:mK P t=some (e,sz,by_)) (hb:Nat.blt 0 by_=true) (htx:kH P tx=3) (hs:fr.ev s=.os t0 sz row xs) (hx:fr.ev x=.view id off m)
  (hcs:σ[id]?=some cs) (hl:ys.length=m) (hu:(cs.drop off).take (m*sz)=us) (he:us=((ys.map row).flatten).map AV.c) (hy:∀ u,(row u).length=sz) (hz:app by_ xs ys=some zs)
  (h:mJ mo P all r ((d,.os (16*d) sz row zs) :: fr.dem (aIt d t0)) (σ.dem (aIt d t0)) K):mJ mo P all (⟨some d,.call { callee:=.builtin .append,args:=#[s,x],argTypes:=#[t,tx] },ty,pos,af,none⟩ :: r) fr σ K:=by
 obtain ⟨hm,rfl⟩:=aBO hz
 refine tF (aWn rfl ⟨s,x,t,tx,e,sz,by_,aIt d t0,xs.map row,ys.map row,rfl,rfl,ht,aFm hb,htx,rfl,by simp [hy],by simpa using hm,by simp [aIt,aCi],rfl,rfl,.inr (.inr (.inr (.inr ⟨id,off,m,cs,hx,hcs,by simpa using hl,by rw [hu,he]⟩))),.inl ⟨.inr ⟨t0,by simp [aIt],hs⟩,rfl⟩⟩ ?_)
 have e1:AV.own (rW (some d)) sz (xs.map row++ys.map row)=AV.os (16*d) sz row (xs++ys):=by simp [AV.os,rW]
 simp only [e1]
 exact h
theorem aUV {α:Type}{row:α→List PV}:([]:List AV)=((([]:List α).map row).flatten).map AV.c:=rfl
theorem aPx {n:Int}{b:UInt8}{xs:List UInt8}{as:List AV} (h:vG n=some b) (t:as=((xs.map gW).flatten).map AV.c):.c (.int .u8 n) :: as=(((b :: xs).map gW).flatten).map AV.c:=by
 rw [aHk h,t];rfl
end
end Go.Proofs.YtnigjppddilpcaaGreatDoor.Abs
namespace Go.Proofs.YtnigjppddilpcaaGreatDoor.Abs
open Go
set_option linter.unusedVariables false
set_option linter.unusedSimpArgs false
variable {mo:Bool}
theorem r {α:Sort _}{a:α}:a=a:=rfl
theorem sy {α:Type}{a b:α} (h:some a=some b):b=a:=(eU h).symm
theorem lr {a:AV}:a.le a:=AV.le_refl a
def keys:Fr→List Nat
 | []=>[]
 | (i,_) :: r=>i :: keys r
def aQw (V:List Nat):List Nat→Bool
 | []=>true
 | i :: r=>V.contains i&&aQw V r
theorem aNg {V:List Nat}:∀ {l:List Nat},aQw V l=true→∀ i∈l,i∈V
 | [],_,i,hi=>by cases hi
 | j :: l,h,i,hi=>by
  simp only [aQw,aY,jL] at h
  rcases eQ.1 hi with rfl | hi
  ·
   exact h.1
  ·
   exact aNg h.2 i hi
theorem aKH {V l:List Nat}{fr:Fr} (h:aQw V l=true) (d:Nat):((prune V fr).get d).le ((prune l fr).get d):=by
 rw [aGZ,aGZ]
 by_cases hd:d∈l
 ·
  rw [aT hd,aT (aNg h d hd)];exact AV.le_refl _
 ·
  rw [aQ hd];exact AV.le_any _
section
variable {P:Program}{V:List Nat}{k0:Nat}{Q:Exit→Fr→St→Prop}{fr:Fr}{σ:St}
theorem aH {all:List Oper}{y:Code}{fr':Fr} (hk:aQw V (keys fr')=true) (hp:prune (keys fr') fr=fr') (h:yH P V k0 y Q fr' σ):mJ mo P all [] fr σ fun fr σ=>hold (aD3 (kw P V k0 y Q) Q .normal (prune V fr) σ):=by
 refine ⟨fr',σ,qJ.slots fun d=>?_,h⟩
 have:=aKH (fr:=fr) hk d
 rw [hp] at this
 exact this
theorem aAe {ops:Array Oper}{y:Code}{fr':Fr} (hk:aQw V (keys fr')=true) (hp:prune (keys fr') fr=fr') (h:yH P V k0 y Q fr' σ):ad P ops [] fr σ fun fr σ=>hold (aD3 (kw P V k0 y Q) Q .normal (prune V fr) σ):=by
 refine ⟨fr',σ,qJ.slots fun d=>?_,h⟩
 have:=aKH (fr:=fr) hk d
 rw [hp] at this
 exact this
theorem aJ {id:Nat}{l:List Oper}{y:Code} (h:mJ true P l l fr σ fun fr σ=>hold (aD3 (kw P V k0 y Q) Q .normal (prune V fr) σ)):yH P V k0 (.seq (.region id l.toArray false) y) Q fr σ:=aX (bA h)
theorem cU {α:Type}{c:Operand}{x y:Code}{b:Bool}{X Y:Option α}{r:α} (he:cond b X Y=some r) (h:fr.ev c=.c (.bool b)) (h1:b=true→X=some r→yH P V k0 x Q fr σ) (h2:b=false→Y=some r→yH P V k0 y Q fr σ):yH P V k0 (.cond c x y) Q fr σ :=
 aLF b h (fun hb=>h1 hb (aQ0 hb he)) (fun hb=>h2 hb (aQZ hb he))
end
theorem aOo {α:Type}{G:Prop}{b:Bool}{X Y:Option α}{r:α} (he:cond b X Y=some r) (h1:b=true→X=some r→G) (h2:b=false→Y=some r→G):G:=by
 cases hb:b
 ·
  exact h2 hb (aQZ hb he)
 ·
  exact h1 hb (aQ0 hb he)
section
variable {P:Program}{all r:List Oper}{ops:Array Oper}{rp:List PI}{d dj j i:Nat}{op:Op}{ty:TypeId}{pos:String}{af:Array Edge}{fr:Fr}{σ:St}{K:Fr→St→Prop}{v:AV}{b c w:Bool}{x:Operand}
theorem mV (hx:fr.ev x=v) (h:mJ mo P all r ((d,v) :: fr) σ K):mJ mo P all (⟨some d,.move x,ty,pos,af,none⟩ :: r) fr σ K:=aU rfl (bK hx) h
theorem sV (hx:fr.ev x=v) (h:mJ mo P all r ((d,v) :: fr) σ K):mJ mo P all (⟨some d,.assign x,ty,pos,af,none⟩ :: r) fr σ K:=aU rfl (aGd hx) h
theorem mI {k:IntKind}{n:Int} (hx:fr.ev x=.c (.int k n)) (h:mJ mo P all r ((d,.c (.int k n)) :: fr) σ K):mJ mo P all (⟨some d,.move x,ty,pos,af,none⟩ :: r) fr σ K:=mV hx h
theorem sI {k:IntKind}{n:Int} (hx:fr.ev x=.c (.int k n)) (h:mJ mo P all r ((d,.c (.int k n)) :: fr) σ K):mJ mo P all (⟨some d,.assign x,ty,pos,af,none⟩ :: r) fr σ K:=sV hx h
theorem mB {n:Bool} (hx:fr.ev x=.c (.bool n)) (h:mJ mo P all r ((d,.c (.bool n)) :: fr) σ K):mJ mo P all (⟨some d,.move x,ty,pos,af,none⟩ :: r) fr σ K:=mV hx h
theorem sB {n:Bool} (hx:fr.ev x=.c (.bool n)) (h:mJ mo P all r ((d,.c (.bool n)) :: fr) σ K):mJ mo P all (⟨some d,.assign x,ty,pos,af,none⟩ :: r) fr σ K:=sV hx h
theorem mS {s:List UInt8} (hx:fr.ev x=.c (.str s)) (h:mJ mo P all r ((d,.c (.str s)) :: fr) σ K):mJ mo P all (⟨some d,.move x,ty,pos,af,none⟩ :: r) fr σ K:=mV hx h
theorem sS {s:List UInt8} (hx:fr.ev x=.c (.str s)) (h:mJ mo P all r ((d,.c (.str s)) :: fr) σ K):mJ mo P all (⟨some d,.assign x,ty,pos,af,none⟩ :: r) fr σ K:=sV hx h
theorem mL {α:Type}{sz:Nat}{row:α→List PV}{xs:List α} (hx:fr.ev x=.c (PV.ls sz row xs)) (h:mJ mo P all r ((d,.c (PV.ls sz row xs)) :: fr) σ K):mJ mo P all (⟨some d,.move x,ty,pos,af,none⟩ :: r) fr σ K:=mV hx h
theorem sL {α:Type}{sz:Nat}{row:α→List PV}{xs:List α} (hx:fr.ev x=.c (PV.ls sz row xs)) (h:mJ mo P all r ((d,.c (PV.ls sz row xs)) :: fr) σ K):mJ mo P all (⟨some d,.assign x,ty,pos,af,none⟩ :: r) fr σ K:=sV hx h
theorem og (hp:aAY ⟨some d,op,ty,pos,af,some (j,w)⟩=true) (hj:aE8 all j=some dj) (hs:fr.get dj=.c (.bool b)) (hv:(b==w)=true→Pv P ⟨some d,op,ty,pos,af,some (j,w)⟩ fr.ev σ v) (h:mJ mo P all r ((d,gv (b==w) v) :: fr) σ K):mJ mo P all (⟨some d,op,ty,pos,af,some (j,w)⟩ :: r) fr σ K :=
 zG hj hs (fun hc=>iI hp (hv hc)) h
theorem dq (ho:ops[i]?=some ⟨some d,op,ty,pos,af,none⟩) (hp:aAY ⟨some d,op,ty,pos,af,none⟩=true) (hv:Pv P ⟨some d,op,ty,pos,af,none⟩ fr.ev σ v) (h:ad P ops rp ((d,v) :: fr) σ K):ad P ops (.q i :: rp) fr σ K:=d_q ho (mG hp hv) h
end
open RowKit in
theorem aNz {P:Program}{f:FuncId}{args:List AV}{r:AV} (hc:aCJ P f=true)
  (h:∀ (g:G) (w:World) (vs:Array Value),fZ g w vs args→(∀ b o,g.I b o→b<w.heap.size)→Glo g.I w→Calls P f vs w fun e w'=>∃ v,e=.returned v∧Below w.heap.size w w'∧∀ g',nZ g' w' v r):cX P f args [] r []:=by
 refine ⟨hc,fun w I β τ vs hI hnd hlt hβI hτ hτi hlen hst hargs hglo=>?_⟩
 have hβ:β=[]:=eY hlen
 subst hβ
 refine (h ⟨I,[],τ⟩ w vs hargs hI hglo).mono fun e w'=>?_
 rintro ⟨v,he,hb,hv⟩
 refine ⟨v,⟨I,[],fun _=>none⟩,he,⟨hb.os,hb.tape,hb.output,hb.size,fun b hb' _ _=>hb.block b hb',fun _ _ h=>h,fun _ _ h _ _=>h,fun b o h=>fC (hI b o h) hb.size,rfl,by simp,List.nodup_nil,rfl,by simp,by simp,
  fun t b h=>(by cases h),fun t t' b h=>(by cases h),fun id cs b hs=>(by simp at hs),fun b o h=>(by simp [World.cell?,hb.block b (hI b o h)]),hglo⟩,hv _⟩
theorem aUF {I:Nat→Nat→Prop}{w:World}{v:Value}{s:List UInt8} (h:RV I w v (.str s)):v=.string ⟨s.toArray⟩:=by cases h;rfl
theorem aVP {g:G}{w:World}{v:Value}{p:PV} (h:nZ g w v (.c p)):RV g.I w v p:=by cases h;assumption
theorem rc1 {g:G}{w:World}{vs:Array Value}{a:AV} (h:fZ g w vs [a]):∃ v,vs=#[v]∧nZ g w v a:=by
 obtain ⟨h1,h2⟩:=h
 obtain ⟨l⟩:=vs
 match l,h1 with
 | [v],_=>exact ⟨v,rfl,h2 0 v a rfl rfl⟩
theorem aUC {g:G}{w:World}{vs:Array Value}{s:List UInt8} (h:fZ g w vs [.c (.str s)]):vs=#[.string ⟨s.toArray⟩]:=by
 obtain ⟨v,rfl,hv⟩:=rc1 h
 rw [aUF (aVP hv)]
theorem aRk {α:Type}{p:Prop} [Decidable p] {a b:α} (h:(if p then some a else none)=some b):p∧b=a:=by
 by_cases hp:p
 ·
  rw [aT hp] at h;exact ⟨hp,(eU h).symm⟩
 ·
  rw [aQ hp] at h;cases h
theorem aLi {P:Program}{I:Nat→Nat→Prop}{w:World} (h:Glo I w) {k:Nat}{p:Array Value→Prop} (hm:(k,p)∈aRh) {n:String} (hn:P.globalNamed n=some k):∃ cs,w.var? P n=some cs∧p cs:=by
 obtain ⟨_,cs,e,l,h2,_,h4⟩:=h _ hm
 exact ⟨cs,by simp [World.var?,hn,h2],h4⟩

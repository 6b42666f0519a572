/- The printed walks' steps: guards whose way is known, parts that may end in any way, types' places. The printed walks' steps: calls that are handed no variable, cells of bytes. The printed walks' steps in regions whose order is drawn. From a law's data to typed values. The printed walks' steps: arrays, and equality of structs. The printed walks' steps: rows that may be stored into, arrays told by slices. The printed walks' steps, in fewer signs. -/
import Derived.Test.YtnigjppddilpcaaGreatDoorAbs24
import Derived.Test.YtnigjppddilpcaaGreatDoorPk1
namespace Go.Proofs.YtnigjppddilpcaaGreatDoor.Abs
open Go
set_option linter.unusedVariables false
set_option linter.unusedSimpArgs false
theorem fU {e w:Bool} (h:e=w):(e==w)=true:=by simp [h]
theorem qC {a b:Bool} (h:a=true) (h2:b=true):(a&&b)=true:=by rw [h,h2];rfl
section
variable {P:Program}{all r:List Oper}{d dj j:Nat}{op:Op}{ty:TypeId}{pos:String}{af:Array Edge}{fr:Fr}{σ:St}{K:Fr→St→Prop}{Kq:Fr→Prop}{v:AV}{b c w:Bool}
end
section
variable {P:Program}{d:Option Tmp}{ty:TypeId}{pos:String}{af:Array Edge}{gd:Option (Nat × Bool)}{ev:Operand→AV}{σ:St}{x y z:Operand}{q p:Bool}
theorem aJO (hx:ev x=.c (.bool q)) (hq:q=true) (hy:ev y=.c (.bool p)):Pv P ⟨d,.pick x y z,ty,pos,af,gd⟩ ev σ (.c (.bool p)):=fun K h=>by
 subst hq
 (refine .inl ?_;simp only [eG,hx,hy])
 split
 ·
  rename_i e1 e2;cases e1;exact h
 ·
  exact ⟨fun _=>h,fun e=>by cases e⟩
theorem aDh (hx:ev x=.c (.bool q)) (hq:q=false) (hz:ev z=.c (.bool p)):Pv P ⟨d,.pick x y z,ty,pos,af,gd⟩ ev σ (.c (.bool p)):=fun K h=>by
 subst hq
 (refine .inl ?_;simp only [eG,hx,hz])
 split
 ·
  rename_i e1 e2;cases e2;exact h
 ·
  exact ⟨(fun e=>by cases e),fun _=>h⟩
end
def aGP (l:List (Nat × Option Nat)) (i:Nat):Option (Nat × Nat):=match l[i]? with | some (o,some n)=>some (o,n) | _=>none
def aCN (P:Program) (t:TypeId):Option (List (Nat × Option Nat)):=match aCw P t with | some fs=>some (fs.toList.map fun x=>(x.offset,(P.info? x.type).map (·.size))) | _=>none
theorem oX {P:Program}{t:TypeId}{l:List (Nat × Option Nat)} (h:aCN P t=some l) (i:Nat):pT P t i=aGP l i:=by
 unfold aCN at h
 unfold pT aGP
 split at h
 ·
  rename_i fs hf
  cases h
  simp only [hf,bY,dS]
  cases hx:fs[i]? with
  | none=>rfl
  | some x=>simp only [eO];cases P.info? x.type <;> rfl
 ·
  cases h
section
variable {P:Program}{V:List Nat}{k0:Nat}{Q:Exit→Fr→St→Prop}{fr:Fr}{σ:St}{K:Fr→St→Prop}
def aJh (k0:Nat) (Q:Exit→Fr→St→Prop):Prop:=∀ fr σ fr' σ',pX k0 fr σ fr' σ'→Q .normal fr' σ'→Q .normal fr σ
def kw (P:Program) (V:List Nat) (k0:Nat) (y:Code) (Q:Exit→Fr→St→Prop):Fr→St→Prop:=fun fr σ=>∃ fr' σ',pX k0 fr σ fr' σ'∧yW P V k0 y Q fr' σ'
theorem aU {x y:Code} (h:yW P V k0 x (aEb (kw P V k0 y Q) Q) fr σ):yW P V k0 (.seq x y) Q fr σ:=by
 refine aDc x (fun e fr σ he=>?_) h
 cases e with
 | normal=>exact he
 | _=>exact he
theorem cY {y:Code} (h:yW P V k0 y Q fr σ):aEb (kw P V k0 y Q) Q .normal fr σ:=⟨fr,σ,pX.refl _ _ _,h⟩
theorem kS {y:Code}{Q':Exit→Fr→St→Prop}:aJh k0 (aEb (kw P V k0 y Q) Q'):=fun fr σ fr' σ' hw ⟨fr2,σ2,hw2,h⟩=>⟨fr2,σ2,hw.trans hw2,h⟩
theorem aV6 {J:Type}{C:J→Prop}{F:J→Fr}{G:J→St}:aJh k0 (aEb (fun fr σ=>∃ j,C j∧pX k0 fr σ (F j) (G j)) Q):=fun fr σ fr' σ' hw ⟨j,h1,h2⟩=>⟨j,h1,hw.trans h2⟩
theorem aV5 {id:Nat} (h:aJh k0 Q):aJh k0 (aQA id Q):=fun fr σ fr' σ' hw h'=>h fr σ fr' σ' hw h'
theorem gY {x:Code}{J:Type} (hQ:aJh k0 Q) (C:J→Prop) (F:J→Fr) (G:J→St) (h:yW P V k0 x (aEb (fun fr σ=>∃ j,C j∧pX k0 fr σ (F j) (G j)) Q) fr σ) (h2:∀ j,C j→Q .normal (F j) (G j)):yW P V k0 x Q fr σ :=
 aDc x (fun e fr σ he=>by
  cases e with
  | normal=>obtain ⟨j,h1,h3⟩:=he;exact hQ _ _ _ _ h3 (h2 j h1)
  | _=>exact he) h
theorem kI {J:Type}{C:J→Prop}{F:J→Fr}{G:J→St} (j:J) (h:C j) (hw:pX k0 fr σ (F j) (G j)):aEb (fun fr σ=>∃ j,C j∧pX k0 fr σ (F j) (G j)) Q .normal fr σ:=⟨j,h,hw⟩
end
def aFU (k:IntKind) (n:Int):List PV:=[.int k n]
def fZ (s:List UInt8):List PV:=[.str s]
theorem mX {α:Type}{row:α→List PV}:([]:List (List PV))=([]:List α).map row:=rfl
theorem eI {α:Type}{row:α→List PV}{p:List PV}{ps:List (List PV)}{x:α}{xs:List α} (h:row x=p) (t:ps=xs.map row):p :: ps=(x :: xs).map row:=by simp [h,t]
variable {mo:Bool}
theorem St.dem_upd (f:Nat→Bool) (σ:St) (d:Nat):σ.after [] d []=σ.dem fun t=>t / 16==d:=by simp [St.after,St.upd,aJs]
section
variable {P:Program}{all r:List Oper}{d:Nat}{op:Op}{ty:TypeId}{pos:String}{af:Array Edge}{fr:Fr}{σ:St}{K:Fr→St→Prop}{v:AV}
theorem kB (hv:Ov P ⟨some d,op,ty,pos,af,none⟩ fr σ v) (h:lS mo P all r ((d,v) :: fr) σ K):lS mo P all (⟨some d,op,ty,pos,af,none⟩ :: r) fr σ K:=by
 refine tB ?_
 exact hv _ h
theorem bC {gd:Option (Nat × Bool)}{fo:Operand}{args:Array Operand}{ts:Array TypeId}{f:FuncId}{caps as:List AV}{rv:AV} (hf:fr.ev fo=.fn f caps) (hc:cR P f as [] rv []) (ha:leP (AV.lowL [] (args.toList.map fr.ev++caps)) as)
  (hfr:(fr.dem fun t=>t / 16==d)=fr) (hσ:(σ.dem fun t=>t / 16==d)=σ) (hv:rv.lift [] σ.length d=v) :
  Ov P ⟨some d,.call { callee:=.value fo,args:=args,argTypes:=ts },ty,pos,af,gd⟩ fr σ v:=fun K hk=>by
 unfold aop
 simp only [hf,aH6]
 refine ⟨d,[],[],as,[],rv,[],.nil,.nil,by simp,aDB ha,by simp [St.sub];exact .nil,hc,?_⟩
 simp only [eR,aJs,hfr,hv,St.dem_upd (fun _=>true),hσ]
 exact hk
end
theorem aUO {α:Type}{P:Program}{all r:List Oper}{d:Nat}{ty t t2:TypeId}{pos:String}{af:Array Edge}{fr:Fr}{σ:St}{K:Fr→St→Prop}{sz:Nat}{row:α→List PV}{xs:List α}{x:Operand} (ht:jZ P t=3) (hx:isl (fr.ev x) sz row xs)
  (h:∀ b:Bool,(b=true→xs=[])→lS mo P all r ((d,.c (.bool b)) :: fr) σ K):lS mo P all (⟨some d,.binOp .eql t x (.const (.slice .none 0 0)) t2,ty,pos,af,none⟩ :: r) fr σ K:=by
 refine tB ?_
 have hk:∀ b:Bool,(b=true→xs.map row=[])→lS mo P all r ((d,.c (.bool (b != false))) :: fr) σ K:=fun b hb=>by
  have:=h b (fun e=>by simpa using hb e)
  simpa using this
 have hn:fr.ev (.const (.slice .none 0 0))=.nil:=rfl
 rcases hx with hx | ⟨t0,hx⟩ <;> simp only [aop,aCa,aOt,hx,hn,PV.ls,AV.os] <;> exact ⟨ht,hk⟩
theorem aE5 {n:Int}{x:UInt8} (h:aBy n=some x):hF x=[.int .u8 n]:=by rw [aNb h];rfl
theorem cV {cs bs:List AV}{σ σ':St} (h:cs=bs) (t:leS σ σ'):leS (cs :: σ) (bs :: σ'):=by subst h;exact .cons (AV.leL_refl _) t
section
variable {k0:Nat}{Q:Exit→Fr→St→Prop}{fr:Fr}{σ:St}
theorem e_l {S R:Type}{st:dU S R}{F:S→Fr}{G:S→St} (s:S) (h:st=.next s) (hw:pX k0 fr σ (F s) (G s)):aEb (fun fr σ=>∃ s',st=.next s'∧pX k0 fr σ (F s') (G s')) Q .normal fr σ:=⟨s,h,hw⟩
end
theorem fH {x v w:AV}{ids:List Nat} (h:x=v) (hl:(v.low ids).le w):(x.low ids).le w:=by rw [h];exact hl
theorem zB {P:Program}{o:Oper}{ev:Operand→AV}{σ:St}{p q:PV} (h:Pv P o ev σ (.c p)) (he:p=q):Pv P o ev σ (.c q):=he ▸ h
def aRV (f:Nat→Bool):Fr→Prop
 | []=>True
 | (_,a) :: r=>AV.dem f a=a∧aRV f r
theorem fC {f:Nat→Bool}:aRV f []:=trivial
theorem aZ {f:Nat→Bool}{i:Nat}{a:AV}{r:Fr} (h:AV.dem f a=a) (t:aRV f r):aRV f ((i,a) :: r):=⟨h,t⟩
theorem rG {f:Nat→Bool}{c:Bool}{v:AV} (h:AV.dem f v=v):AV.dem f (gv c v)=gv c v:=by
 cases c
 ·
  rfl
 ·
  exact h
theorem gO {f:Nat→Bool}:∀ {fr:Fr},aRV f fr→Fr.dem f fr=fr
 | [],_=>rfl
 | (i,a) :: r,h=>by simp only [Fr.dem,h.1,gO h.2]
end Go.Proofs.YtnigjppddilpcaaGreatDoor.Abs
namespace Go.Proofs.YtnigjppddilpcaaGreatDoor.Abs
open Go
set_option linter.unusedVariables false
set_option linter.unusedSimpArgs false
section
variable {P:Program}{ops:Array Oper}{r:List PI}{i:Nat}{rl:List Nat}{d dj j:Nat}{op:Op}{ty:TypeId}{pos:String}{af:Array Edge}{fr:Fr}{σ:St}{K:Fr→St→Prop}{v:AV}{b c w:Bool}
theorem aRx {o:Oper} (h:Qv P o fr σ v):AQ P o fr.ev σ v:=by
 obtain ⟨u,h1,h2⟩:=aOC (h (fun x=>x=v) rfl)
 rw [← h2];exact h1
theorem aVk {fr':Fr}{V:List Nat}{Q:Exit→Fr→St→Prop} (hp:prune V fr=fr') (h:Q .normal fr' σ):ad P ops [] fr σ fun fr σ=>hold (Q .normal (prune V fr) σ):=by
 subst hp;exact h
theorem d_q (ho:ops[i]?=some ⟨some d,op,ty,pos,af,none⟩) (hv:Qv P ⟨some d,op,ty,pos,af,none⟩ fr σ v) (h:ad P ops r ((d,v) :: fr) σ K):ad P ops (.q i :: r) fr σ K:=by
 simp only [ad,ho,qW]
 exact ⟨v,aRx hv,h⟩
theorem d_g (ho:ops[i]?=some ⟨some d,op,ty,pos,af,some (j,w)⟩) (hj:aFx ops.toList j=some dj) (hs:fr.get dj=.c (.bool b)) (hv:(b==w)=true→Qv P ⟨some d,op,ty,pos,af,some (j,w)⟩ fr σ v) (h:ad P ops r ((d,gv (b==w) v) :: fr) σ K):ad P ops (.q i :: r) fr σ K:=by
 simp only [ad,ho]
 refine aSY rfl hj hs (fun e=>?_) (fun e=>?_)
 ·
  have e':(b==w)=true:=by simp [e]
  refine ⟨v,aRx (hv e'),?_⟩
  rw [e',gv,bB rfl] at h
  exact h
 ·
  have e':(b==w)=false:=by simpa using e
  rw [e',gv,aY (by simp)] at h
  exact h
theorem d_n {o:Oper} (ho:ops[i]?=some o) (h:lS false P ops.toList [o] fr σ fun fr' σ'=>RC P ops σ' fr' rl∧ad P ops r fr' σ' K) (hg:o.guard=none):ad P ops (.n i rl :: r) fr σ K:=by
 obtain ⟨dst,op,ty,pos,af,guard⟩:=o
 cases hg
 simp only [ad,ho,qW]
 exact h
theorem aEx {all:List Oper} (h:K fr σ):lS false P all [] fr σ K:=h
theorem xN:RC P ops σ fr []:=trivial
theorem aIC {q:Nat} (ho:ops[q]?=some ⟨some d,op,ty,pos,af,none⟩) (hd:fr.get d=v) (hv:Qv P ⟨some d,op,ty,pos,af,none⟩ fr σ v) (t:RC P ops σ fr rl):RC P ops σ fr (q :: rl):=by
 refine ⟨⟨_,d,ho,rfl,?_⟩,t⟩
 rw [hd]
 show AQ P _ _ σ v
 rw [aIX]
 exact aRx hv
end
def aSG (acc:List Nat) (o:Oper):Nat:=o.after.toList.foldl (fun m e=>if Region.binds .any e then m ||| (1 <<< e.on) ||| acc.getD e.on 0 else m) 0
def aFz:List Oper→List Nat→List Nat
 | [],acc=>acc
 | o :: r,acc=>aFz r (acc++[aSG acc o])
theorem aJy {acc:List Nat}:∀ (l:List Edge) (m j:Nat),(l.foldl (fun m e=>if Region.binds .any e then m ||| (1 <<< e.on) ||| acc.getD e.on 0 else m) m).testBit j=true→m.testBit j=true∨∃ e∈l,Region.binds .any e=true∧(e.on=j∨(acc.getD e.on 0).testBit j=true)
 | [],m,j,h=>.inl h
 | e :: l,m,j,h=>by
  simp only [pH] at h
  rcases aJy l _ j h with h1 | ⟨e',he',h1⟩
  ·
   cases hb:Region.binds .any e with
   | false=>rw [hb] at h1;simp at h1;exact .inl h1
   | true =>
    rw [hb,bB rfl,Nat.testBit_or,Nat.testBit_or,eC,eC] at h1
    rcases h1 with (h1 | h1) | h1
    ·
     exact .inl h1
    ·
     refine .inr ⟨e,by simp,hb,.inl ?_⟩
     rw [Nat.one_shiftLeft,Nat.testBit_two_pow] at h1
     simpa using h1
    ·
     exact .inr ⟨e,by simp,hb,.inr h1⟩
  ·
   exact .inr ⟨e',iZ _ he',h1⟩
theorem aHy:∀ (l:List Oper) (acc:List Nat) (i:Nat),i<acc.length→(aFz l acc).getD i 0=acc.getD i 0
 | [],acc,i,h=>rfl
 | o :: r,acc,i,h=>by
  simp only [aFz]
  rw [aHy r _ i (by simp;omega)]
  rw [bZ,bZ,cQ h]
theorem aNr:∀ (l:List Oper) (acc:List Nat) (k:Nat) (o:Oper),l[k]?=some o→∃ acc',acc'.length=acc.length+k∧(∀ i,i<acc'.length→acc'.getD i 0=(aFz l acc).getD i 0)∧(aFz l acc).getD (acc.length+k) 0=aSG acc' o
 | [],acc,k,o,h=>by simp at h
 | x :: r,acc,0,o,h=>by
  simp at h;subst h
  refine ⟨acc,rfl,fun i hi=>?_,?_⟩
  ·
   simp only [aFz]
   rw [aHy r _ i (by simp;omega),bZ,bZ,cQ hi]
  ·
   simp only [aFz,tA]
   rw [aHy r _ _ (by simp)]
   simp [bZ]
 | x :: r,acc,k+1,o,h=>by
  simp at h
  obtain ⟨acc',h1,h2,h3⟩:=aNr r (acc++[aSG acc x]) k o h
  refine ⟨acc',by rw [h1];simp;omega,h2,?_⟩
  rw [← h3]
  simp only [aFz]
  congr 1
  simp;omega
theorem aJL {ops:Array Oper} (hord:∀ i,i<ops.size→∃ o,ops[i]?=some o∧∀ e∈o.after,Region.binds .any e=true→e.on<i):∀ (n i j:Nat),i<n→i<ops.size→((aFz ops.toList []).getD i 0).testBit j=true→qL ops n j i=true
 | 0,i,j,h,_,_=>by omega
 | n+1,i,j,h,hi,hb=>by
  obtain ⟨o,ho,hlt⟩:=hord i hi
  obtain ⟨acc',h1,h2,h3⟩:=aNr ops.toList [] i o (by rw [dS];exact ho)
  simp only [jO,jF] at h1 h3
  rw [h3] at hb
  rcases aJy o.after.toList 0 j hb with h4 | ⟨e,he,hbe,h4⟩
  ·
   simp at h4
  ·
   have he':e∈o.after:=by simpa using he
   have hel:=hlt e he' hbe
   simp only [qL,ho]
   refine sF.2 ⟨e,he',?_⟩
   simp only [hbe,dW,eC,nK]
   rcases h4 with h4 | h4
   ·
    exact .inl h4
   ·
    rw [h2 e.on (by omega)] at h4
    exact .inr (aJL hord n e.on j (by omega) (by omega) h4)
abbrev Tab:=List (Option Nat × List Nat)
def aFD (ops:Array Oper):Tab:=ops.toList.map fun o=>(o.dst,o.looksAt ops)
def aJl (tab:Tab) (i j:Nat):Bool:=match tab[i]?,tab[j]? with
 | some (d,_),some (dj,lj)=>(match d with | some d=>!lj.contains d&&(i==j||dj != some d) | _=>true)
 | _,_=>false
def aSf (tab:Tab) (j i:Nat):Bool:=match tab[j]?,tab[i]? with
 | some (dj,_),some (_,li)=>(match dj with | some d=>li.contains d | _=>false)
 | _,_=>true
def aOI (ms:List Nat) (j i:Nat):Bool:=(ms.getD i 0).testBit j
def okT (tab:Tab) (ms:List Nat):List PI→List Nat→Bool
 | [],_=>true
 | it :: r,done =>
  decide (it.ix<tab.length)&&!done.contains it.ix&&(done.all fun j=>!aSf tab j it.ix||aOI ms j it.ix) &&
  (match it with
   | .q i=>(match tab[i]? with | some (some _,_)=>true | _=>false)&&aJl tab i i&&(done.all fun j=>aJl tab i j)
   | .n i rl=>(done.all fun j=>aJl tab i j||aOI ms j i)&&(r.all fun x=>aOI ms i x.ix)&&(done.all fun j=>rl.contains j||aOI ms j i)) &&
  okT tab ms r (it.ix :: done)
def aSh:Nat→List Oper→Bool
 | _,[]=>true
 | i,o :: r=>(o.after.toList.all fun e=>!Region.binds .any e||Nat.blt e.on i)&&aSh (i+1) r
def aSm (ops:Array Oper) (pl:List PI) (tab:Tab) (ms:List Nat):Bool :=
 decide (aFD ops=tab)&&decide (aFz ops.toList []=ms)&&aSh 0 ops.toList&&okT tab ms pl []&&((List.range tab.length).all fun i=>pl.any fun x=>x.ix==i)
theorem aNz:∀ (l:List Oper) (k i:Nat) (o:Oper),aSh k l=true→l[i]?=some o→∀ e∈o.after,Region.binds .any e=true→e.on<k+i
 | [],k,i,o,_,h=>by simp at h
 | x :: r,k,0,o,h,ho=>by
  simp at ho;subst ho
  simp only [aSh,aR] at h
  intro e he hb
  have:=cI.1 h.1 e (by simpa using he)
  simp only [hb,cJ,kL] at this
  exact aHp this
 | x :: r,k,i+1,o,h,ho=>by
  simp at ho
  simp only [aSh,aR] at h
  intro e he hb
  have:=aNz r (k+1) i o h.2 ho e he hb
  omega
theorem aG4 (ops:Array Oper) (i:Nat):(aFD ops)[i]?=(ops[i]?).map fun o=>(o.dst,o.looksAt ops):=by
 unfold aFD
 rw [bY,dS]
theorem aLQ {ops:Array Oper}{i j:Nat}:aJl (aFD ops) i j=aCY ops i j:=by
 unfold aJl aCY
 rw [aG4,aG4]
 cases ops[i]? <;> cases ops[j]? <;> rfl
theorem aUM {ops:Array Oper}{i j:Nat}:aSf (aFD ops) j i=aEv ops j i:=by
 unfold aSf aEv
 rw [aG4,aG4]
 cases ops[i]? <;> cases ops[j]? <;> rfl
theorem aGo {α:Type}{l:List α}{p q:α→Bool} (h:∀ x∈l,p x=true→q x=true) (hp:l.all p=true):l.all q=true:=cI.2 fun x hx=>h x hx (cI.1 hp x hx)
theorem aPP {ops:Array Oper}{ms:List Nat} (hw:∀ i j,i<ops.size→aOI ms j i=true→qL ops ops.size j i=true):∀ (pl:List PI) (done:List Nat),okT (aFD ops) ms pl done=true→okL ops pl done=true
 | [],_,_=>rfl
 | it :: r,done,h=>by
  simp only [okT,aR] at h
  obtain ⟨⟨⟨⟨h1,h2⟩,h3⟩,h4⟩,h5⟩:=h
  have hlt:it.ix<ops.size:=by have:=gE h1;simpa [aFD] using this
  have hi:∀ {j:Nat},aOI ms j it.ix=true→qL ops ops.size j it.ix=true:=fun hb=>hw _ _ hlt hb
  simp only [okL,aR]
  refine ⟨⟨⟨⟨oJ hlt,h2⟩,aGo (fun j _ h=>?_) h3⟩,?_⟩,aPP hw r _ h5⟩
  ·
   rw [aUM,eC] at h
   rw [eC]
   exact h.imp id hi
  ·
   cases it with
   | q i =>
    simp only [aR] at h4 ⊢
    refine ⟨⟨?_,by rw [← aLQ];exact h4.1.2⟩,aGo (fun j _ h=>by rw [← aLQ];exact h) h4.2⟩
    have h6:=h4.1.1
    rw [aG4] at h6
    cases ho:ops[i]? with
    | none=>rw [ho] at h6;cases h6
    | some o =>
     rw [ho] at h6
     simp only [eO] at h6
     split at h6
     ·
      rename_i d l he;simp only [dB,mT] at he;simp [he.1]
     ·
      cases h6
   | n i rl =>
    have hi:∀ {j:Nat},aOI ms j i=true→qL ops ops.size j i=true:=hi
    simp only [aR] at h4 ⊢
    refine ⟨⟨aGo (fun j _ h=>?_) h4.1.1,aGo (fun x hx h=>?_) h4.1.2⟩,aGo (fun j _ h=>?_) h4.2⟩
    ·
     rw [aLQ,eC] at h
     rw [eC]
     exact h.imp id hi
    ·
     by_cases hx2:x.ix<ops.size
     ·
      exact hw _ _ hx2 h
     ·
      exfalso
      have key:∀ (l:List PI) (dn:List Nat),okT (aFD ops) ms l dn=true→∀ y∈l,y.ix<ops.size:=by
       intro l
       induction l with
       | nil=>intro dn _ y hy;cases hy
       | cons z l ihl =>
        intro dn hz y hy
        simp only [okT,aR] at hz
        rcases eT.1 hy with rfl | hy
        ·
         have:=gE hz.1.1.1.1;simpa [aFD] using this
        ·
         exact ihl _ hz.2 y hy
      exact hx2 (key r _ h5 x hx)
    ·
     rw [eC] at h ⊢
     exact h.imp id hi
theorem aSn {ops:Array Oper}{pl:List PI}{tab:Tab}{ms:List Nat} (h:aSm ops pl tab ms=true):aHB ops pl=true:=by
 simp only [aSm,aR] at h
 obtain ⟨⟨⟨⟨h1,h2⟩,h3⟩,h4⟩,h5⟩:=h
 have h1:=gE h1
 have h2:=gE h2
 subst h1 h2
 have hord:∀ i,i<ops.size→∃ o,ops[i]?=some o∧∀ e∈o.after,Region.binds .any e=true→e.on<i:=fun i hi=>by
  refine ⟨_,eQ hi,fun e he hb=>?_⟩
  have:=aNz ops.toList 0 i _ h3 (by rw [dS];exact eQ hi) e he hb
  omega
 simp only [aHB,aR]
 refine ⟨⟨aPP (fun i j hi hb=>aJL hord ops.size i j hi hi hb) pl [] h4,by simpa [aFD] using h5⟩,cI.2 fun i hi=>?_⟩
 obtain ⟨o,ho,hlt⟩:=hord i (fE.1 hi)
 rw [ho]
 refine Array.all_eq_true'.2 fun e he=>?_
 cases hb:Region.binds .any e with
 | false=>rfl
 | true=>simp [hlt e he hb]
theorem mW {P:Program}{V:List Nat}{k0:Nat}{Q:Exit→Fr→St→Prop}{fr:Fr}{σ:St} (pl:List PI) (tab:Tab) (ms:List Nat) {id:Nat}{l:List Oper} (hB:aSm l.toArray pl tab ms=true) (h:ad P l.toArray pl fr σ fun fr σ=>hold (Q .normal (prune V fr) σ)):yW P V k0 (.region id l.toArray true) Q fr σ :=
 aVf pl (aSn hB) h
def aRc (P:Program) (t:TypeId):Option (List TypeId):=match P.underlying t with | some (.struct fs)=>some (fs.toList.map (·.type)) | _=>none
def aSJ (P:Program) (t:TypeId):Option (TypeId × Nat):=match P.underlying t with | some (.slice e)=>some (e,P.cellsOf e) | _=>none
def uQ (x:Int):Prop:=-9223372036854775808≤x∧x≤9223372036854775807
def okW (k:IntKind) (x:Int):Prop:=(Lit.int k x).wf=true
def okS (s:List UInt8):Prop:=s.length≤140737488351232
def aEy {α:Type} (k:Nat) (ok:α→Prop) (xs:List α):Prop:=xs.length≤9223372036854775807∧xs.length*k≤140737488351232∧∀ x∈xs,ok x
section
variable {P:Program}{n:Nat}{t e:TypeId}{ps:List PV}
theorem aU5 {k:IntKind} (h:aCx P t=some k) (hs:oB P n t ps):∃ x,ps=[.int k x]∧okW k x:=by
 cases n with
 | zero=>exact hs.elim
 | succ n =>
  have hu:=aDS h
  simp only [oB,hu] at hs
  exact hs
theorem aWB {x:Int} (h:okW .i64 x):uQ x:=by
 unfold okW Lit.wf at h
 unfold uQ
 simp only [aR,bU] at h
 exact ⟨h.1,h.2⟩
theorem uV (h:aCx P t=some .i64) (hs:oB P n t ps):∃ x,ps=[.int .i64 x]∧uQ x:=by
 obtain ⟨x,h1,h2⟩:=aU5 h hs
 exact ⟨x,h1,aWB h2⟩
theorem aFV (h:jZ P t=2) (hs:oB P n t ps):∃ x,ps=[.str x]∧okS x:=by
 cases n with
 | zero=>exact hs.elim
 | succ n =>
  have hu:=aIp h
  simp only [oB,hu] at hs
  exact hs
theorem aPN {α:Type}{row:α→List PV}{ok:α→Prop}:∀ (xs:List (List PV)),(∀ x∈xs,∃ a,x=row a∧ok a)→∃ as:List α,xs=as.map row∧∀ a∈as,ok a
 | [],_=>⟨[],rfl,by simp⟩
 | x :: xs,h=>by
  obtain ⟨a,rfl,ha⟩:=h x (by simp)
  obtain ⟨as,rfl,has⟩:=aPN xs (fun y hy=>h y (by simp [hy]))
  exact ⟨a :: as,rfl,by simpa using ⟨ha,has⟩⟩
theorem aPV {α:Type}{sz k:Nat}{row:α→List PV}{ok:α→Prop} (h:aSJ P t=some (e,sz)) (hk:P.bytesOf e=k) (hs:oB P n t ps) (conv:∀ m,m<n→∀ qs,oB P m e qs→∃ a:α,qs=row a∧ok a):∃ xs:List α,ps=[PV.ls sz row xs]∧aEy k ok xs:=by
 cases n with
 | zero=>exact hs.elim
 | succ n =>
  unfold aSJ at h
  cases hu:P.underlying t with
  | none=>simp [hu] at h
  | some d =>
   cases d <;> simp [hu] at h
   rename_i e'
   obtain ⟨rfl,rfl⟩:=h
   simp only [oB,hu] at hs
   obtain ⟨xs,rfl,hx,hl,hl2⟩:=hs
   rw [hk] at hl2
   obtain ⟨as,rfl,has⟩:=aPN (row:=row) (ok:=ok) xs (fun x hxm=>conv n (by omega) x (hx x hxm))
   exact ⟨as,rfl,by simpa using hl,by simpa using hl2,has⟩
theorem aPW {l:List TypeId} (h:aRc P t=some l) (hs:oB P n t ps):∃ m,m<n∧aIV (oB P m) l ps:=by
 cases n with
 | zero=>exact hs.elim
 | succ n =>
  unfold aRc at h
  cases hu:P.underlying t with
  | none=>simp [hu] at h
  | some d =>
   cases d <;> simp [hu] at h
   subst h
   simp only [oB,hu] at hs
   exact ⟨n,by omega,by simpa using hs⟩
end
def AV.ar {α:Type} (row:α→List PV) (xs:List α):AV:=.agg (AV.cs ((xs.map row).flatten))
theorem aS7 (f:Nat→Bool) (l:List PV):AV.demL f (AV.cs l)=AV.cs l:=by rw [AV.demL_eq];simp [AV.cs,AV.dem]
theorem rF {α:Type}{row:α→List PV}{xs:List α}{f:Nat→Bool}:(AV.ar row xs).dem f=AV.ar row xs:=by simp only [AV.ar,AV.dem,aS7]
section
variable {P:Program}{d:Option Tmp}{ty:TypeId}{pos:String}{af:Array Edge}{gd:Option (Nat × Bool)}{ev:Operand→AV}{σ:St}{x y z:Operand}{t t2:TypeId}{k k':IntKind}{a b:Int}{v:AV}
end
variable {mo:Bool}
def AV.ms {α:Type} (t sz:Nat) (row:α→List PV) (xs:List α):AV:=.mrow t sz (xs.map row)
section
variable {P:Program}{d:Option Tmp}{ty:TypeId}{pos:String}{af:Array Edge}{gd:Option (Nat × Bool)}{ev:Operand→AV}{σ:St}{x y z:Operand}{t t2:TypeId}{k k':IntKind}{v:AV}
end
section
variable {P:Program}{all r:List Oper}{d:Nat}{ty:TypeId}{pos:String}{af:Array Edge}{fr:Fr}{σ:St}{K:Fr→St→Prop}{v:AV}
end
end Go.Proofs.YtnigjppddilpcaaGreatDoor.Abs
namespace Go.Proofs.YtnigjppddilpcaaGreatDoor.Abs
open Go
set_option linter.unusedVariables false
set_option linter.unusedSimpArgs false
variable {mo:Bool}
theorem r {α:Sort _}{a:α}:a=a:=rfl
theorem sy {α:Type}{a b:α} (h:some a=some b):b=a:=(iD h).symm
theorem lr {a:AV}:a.le a:=AV.le_refl a
def aR6:Fr→List Nat
 | []=>[]
 | (i,_) :: r=>i :: aR6 r
def aQ9 (V:List Nat):List Nat→Bool
 | []=>true
 | i :: r=>V.contains i&&aQ9 V r
theorem aN1 {V:List Nat}:∀ {l:List Nat},aQ9 V l=true→∀ i∈l,i∈V
 | [],_,i,hi=>by cases hi
 | j :: l,h,i,hi=>by
  simp only [aQ9,aR,jG] at h
  rcases eT.1 hi with rfl | hi
  ·
   exact h.1
  ·
   exact aN1 h.2 i hi
theorem aLw {V l:List Nat}{fr:Fr} (h:aQ9 V l=true) (d:Nat):((prune V fr).get d).le ((prune l fr).get d):=by
 rw [aHC,aHC]
 by_cases hd:d∈l
 ·
  rw [bB hd,bB (aN1 h d hd)];exact AV.le_refl _
 ·
  rw [aY hd];exact AV.le_any _
section
variable {P:Program}{V:List Nat}{k0:Nat}{Q:Exit→Fr→St→Prop}{fr:Fr}{σ:St}
theorem aG {all:List Oper}{y:Code}{fr':Fr} (hk:aQ9 V (aR6 fr')=true) (hp:prune (aR6 fr') fr=fr') (h:yW P V k0 y Q fr' σ):lS mo P all [] fr σ fun fr σ=>hold (aEb (kw P V k0 y Q) Q .normal (prune V fr) σ):=by
 refine ⟨fr',σ,pX.slots fun d=>?_,h⟩
 have:=aLw (fr:=fr) hk d
 rw [hp] at this
 exact this
theorem aBl {ops:Array Oper}{y:Code}{fr':Fr} (hk:aQ9 V (aR6 fr')=true) (hp:prune (aR6 fr') fr=fr') (h:yW P V k0 y Q fr' σ):ad P ops [] fr σ fun fr σ=>hold (aEb (kw P V k0 y Q) Q .normal (prune V fr) σ):=by
 refine ⟨fr',σ,pX.slots fun d=>?_,h⟩
 have:=aLw (fr:=fr) hk d
 rw [hp] at this
 exact this
theorem aH {id:Nat}{l:List Oper}{y:Code} (h:lS true P l l fr σ fun fr σ=>hold (aEb (kw P V k0 y Q) Q .normal (prune V fr) σ)):yW P V k0 (.seq (.region id l.toArray false) y) Q fr σ:=aU (bA h)
theorem cN {α:Type}{c:Operand}{x y:Code}{b:Bool}{X Y:Option α}{r:α} (he:cond b X Y=some r) (h:fr.ev c=.c (.bool b)) (h1:b=true→X=some r→yW P V k0 x Q fr σ) (h2:b=false→Y=some r→yW P V k0 y Q fr σ):yW P V k0 (.cond c x y) Q fr σ :=
 aMu b h (fun hb=>h1 hb (aRG hb he)) (fun hb=>h2 hb (aRF hb he))
end
theorem aUX {α:Type}{G:Prop}{b:Bool}{X Y:Option α}{r:α} (he:cond b X Y=some r) (h1:b=true→X=some r→G) (h2:b=false→Y=some r→G):G:=by
 cases hb:b
 ·
  exact h2 hb (aRF hb he)
 ·
  exact h1 hb (aRG hb he)
section
variable {P:Program}{all r:List Oper}{ops:Array Oper}{rp:List PI}{d dj j i:Nat}{op:Op}{ty:TypeId}{pos:String}{af:Array Edge}{fr:Fr}{σ:St}{K:Fr→St→Prop}{v:AV}{b c w:Bool}{x:Operand}
theorem mV (hx:fr.ev x=v) (h:lS mo P all r ((d,v) :: fr) σ K):lS mo P all (⟨some d,.move x,ty,pos,af,none⟩ :: r) fr σ K:=aN rfl (bS hx) h
theorem sV (hx:fr.ev x=v) (h:lS mo P all r ((d,v) :: fr) σ K):lS mo P all (⟨some d,.assign x,ty,pos,af,none⟩ :: r) fr σ K:=aN rfl (aGN hx) h
theorem mI {k:IntKind}{n:Int} (hx:fr.ev x=.c (.int k n)) (h:lS mo P all r ((d,.c (.int k n)) :: fr) σ K):lS mo P all (⟨some d,.move x,ty,pos,af,none⟩ :: r) fr σ K:=mV hx h
theorem sI {k:IntKind}{n:Int} (hx:fr.ev x=.c (.int k n)) (h:lS mo P all r ((d,.c (.int k n)) :: fr) σ K):lS mo P all (⟨some d,.assign x,ty,pos,af,none⟩ :: r) fr σ K:=sV hx h
theorem mB {n:Bool} (hx:fr.ev x=.c (.bool n)) (h:lS mo P all r ((d,.c (.bool n)) :: fr) σ K):lS mo P all (⟨some d,.move x,ty,pos,af,none⟩ :: r) fr σ K:=mV hx h
theorem sB {n:Bool} (hx:fr.ev x=.c (.bool n)) (h:lS mo P all r ((d,.c (.bool n)) :: fr) σ K):lS mo P all (⟨some d,.assign x,ty,pos,af,none⟩ :: r) fr σ K:=sV hx h
theorem mS {s:List UInt8} (hx:fr.ev x=.c (.str s)) (h:lS mo P all r ((d,.c (.str s)) :: fr) σ K):lS mo P all (⟨some d,.move x,ty,pos,af,none⟩ :: r) fr σ K:=mV hx h
theorem sS {s:List UInt8} (hx:fr.ev x=.c (.str s)) (h:lS mo P all r ((d,.c (.str s)) :: fr) σ K):lS mo P all (⟨some d,.assign x,ty,pos,af,none⟩ :: r) fr σ K:=sV hx h
theorem mL {α:Type}{sz:Nat}{row:α→List PV}{xs:List α} (hx:fr.ev x=.c (PV.ls sz row xs)) (h:lS mo P all r ((d,.c (PV.ls sz row xs)) :: fr) σ K):lS mo P all (⟨some d,.move x,ty,pos,af,none⟩ :: r) fr σ K:=mV hx h
theorem sL {α:Type}{sz:Nat}{row:α→List PV}{xs:List α} (hx:fr.ev x=.c (PV.ls sz row xs)) (h:lS mo P all r ((d,.c (PV.ls sz row xs)) :: fr) σ K):lS mo P all (⟨some d,.assign x,ty,pos,af,none⟩ :: r) fr σ K:=sV hx h
theorem og (hp:aBR ⟨some d,op,ty,pos,af,some (j,w)⟩=true) (hj:aFx all j=some dj) (hs:fr.get dj=.c (.bool b)) (hv:(b==w)=true→Pv P ⟨some d,op,ty,pos,af,some (j,w)⟩ fr.ev σ v) (h:lS mo P all r ((d,gv (b==w) v) :: fr) σ K):lS mo P all (⟨some d,op,ty,pos,af,some (j,w)⟩ :: r) fr σ K :=
 uP hj hs (fun hc=>fT hp (hv hc)) h
theorem dq (ho:ops[i]?=some ⟨some d,op,ty,pos,af,none⟩) (hp:aBR ⟨some d,op,ty,pos,af,none⟩=true) (hv:Pv P ⟨some d,op,ty,pos,af,none⟩ fr.ev σ v) (h:ad P ops rp ((d,v) :: fr) σ K):ad P ops (.q i :: rp) fr σ K:=d_q ho (aC3 hp hv) h
end
open RowKit in
theorem aFH {P:Program}{f:FuncId}{args:List AV}{r:AV} (hc:aDd P f=true)
  (h:∀ (g:G) (w:World) (vs:Array Value),gB g w vs args→(∀ b o,g.I b o→b<w.heap.size)→Glo g.I w→Calls P f vs w fun e w'=>∃ v,e=.returned v∧Below w.heap.size w w'∧∀ g',nA g' w' v r):cR P f args [] r []:=by
 refine ⟨hc,fun w I β τ vs hI hnd hlt hβI hτ hτi hlen hst hargs hglo=>?_⟩
 have hβ:β=[]:=eM hlen
 subst hβ
 refine (h ⟨I,[],τ⟩ w vs hargs hI hglo).mono fun e w'=>?_
 rintro ⟨v,he,hb,hv⟩
 refine ⟨v,⟨I,[],fun _=>none⟩,he,⟨hb.os,hb.tape,hb.output,hb.size,fun b hb' _ _=>hb.block b hb',fun _ _ h=>h,fun _ _ h _ _=>h,fun b o h=>fG (hI b o h) hb.size,rfl,by simp,List.nodup_nil,rfl,by simp,by simp,
  fun t b h=>(by cases h),fun t t' b h=>(by cases h),fun id cs b hs=>(by simp at hs),fun b o h=>(by simp [World.cell?,hb.block b (hI b o h)]),hglo⟩,hv _⟩
theorem aPg {I:Nat→Nat→Prop}{w:World}{v:Value}{s:List UInt8} (h:RV I w v (.str s)):v=.string ⟨s.toArray⟩:=by cases h;rfl
theorem aSv {g:G}{w:World}{v:Value}{p:PV} (h:nA g w v (.c p)):RV g.I w v p:=by cases h;assumption
theorem rc1 {g:G}{w:World}{vs:Array Value}{a:AV} (h:gB g w vs [a]):∃ v,vs=#[v]∧nA g w v a:=by
 obtain ⟨h1,h2⟩:=h
 obtain ⟨l⟩:=vs
 match l,h1 with
 | [v],_=>exact ⟨v,rfl,h2 0 v a rfl rfl⟩
theorem rc2 {g:G}{w:World}{vs:Array Value}{a b:AV} (h:gB g w vs [a,b]):∃ u v,vs=#[u,v]∧nA g w u a∧nA g w v b:=by
 obtain ⟨h1,h2⟩:=h
 obtain ⟨l⟩:=vs
 match l,h1 with
 | [u,v],_=>exact ⟨u,v,rfl,h2 0 u a rfl rfl,h2 1 v b rfl rfl⟩
theorem aUY {g:G}{w:World}{vs:Array Value}{s:List UInt8} (h:gB g w vs [.c (.str s)]):vs=#[.string ⟨s.toArray⟩]:=by
 obtain ⟨v,rfl,hv⟩:=rc1 h
 rw [aPg (aSv hv)]
theorem aPU {g:G}{w:World}{vs:Array Value}{s t:List UInt8} (h:gB g w vs [.c (.str s),.c (.str t)]):vs=#[.string ⟨s.toArray⟩,.string ⟨t.toArray⟩]:=by
 obtain ⟨u,v,rfl,hu,hv⟩:=rc2 h
 rw [aPg (aSv hu),aPg (aSv hv)]
theorem aR3 {α:Type}{p:Prop} [Decidable p] {a b:α} (h:(if p then some a else none)=some b):p∧b=a:=by
 by_cases hp:p
 ·
  rw [bB hp] at h;exact ⟨hp,(iD h).symm⟩
 ·
  rw [aY hp] at h;cases h
theorem aL2 {P:Program}{I:Nat→Nat→Prop}{w:World} (h:Glo I w) {k:Nat}{p:Array Value→Prop} (hm:(k,p)∈aRZ) {n:String} (hn:P.globalNamed n=some k):∃ cs,w.var? P n=some cs∧p cs:=by
 obtain ⟨_,cs,e,l,h2,_,h4⟩:=h _ hm
 exact ⟨cs,by simp [World.var?,hn,h2],h4⟩

/- The printed walks' steps: guards whose way is known, parts that may end in any way, types' places. The printed walks' steps: calls that are handed no variable, cells of bytes. The printed walks' steps in regions whose order is drawn. From a law's data to typed values. The printed walks' steps: arrays, and equality of structs. The printed walks' steps: rows that may be stored into, arrays told by slices. The printed walks' steps, in fewer signs. -/
import Derived.Test.YtnigjppddilpcaaGreatDoorAbs24
import Derived.Test.YtnigjppddilpcaaGreatDoorPk1
namespace Go.Proofs.YtnigjppddilpcaaGreatDoor.Abs
open Go
set_option linter.unusedVariables false
set_option linter.unusedSimpArgs false
theorem fW {e w:Bool} (h:e=w):(e==w)=true:=by simp [h]
theorem rF {a b:Bool} (h:a=true) (h2:b=true):(a&&b)=true:=by rw [h,h2];rfl
section
variable {P:Program}{all r:List Oper}{d dj j:Nat}{op:Op}{ty:TypeId}{pos:String}{af:Array Edge}{fr:Fr}{σ:St}{K:Fr→St→Prop}{Kq:Fr→Prop}{v:AV}{b c w:Bool}
end
section
variable {P:Program}{d:Option Tmp}{ty:TypeId}{pos:String}{af:Array Edge}{gd:Option (Nat × Bool)}{ev:Operand→AV}{σ:St}{x y z:Operand}{q p:Bool}
theorem aI3 (hx:ev x=.c (.bool q)) (hq:q=true) (hy:ev y=.c (.bool p)):Pv P ⟨d,.pick x y z,ty,pos,af,gd⟩ ev σ (.c (.bool p)):=fun K h=>by
 subst hq
 (refine .inl ?_;simp only [bY,hx,hy])
 split
 ·
  rename_i e1 e2;cases e1;exact h
 ·
  exact ⟨fun _=>h,fun e=>by cases e⟩
theorem aAW (hx:ev x=.c (.bool q)) (hq:q=false) (hz:ev z=.c (.bool p)):Pv P ⟨d,.pick x y z,ty,pos,af,gd⟩ ev σ (.c (.bool p)):=fun K h=>by
 subst hq
 (refine .inl ?_;simp only [bY,hx,hz])
 split
 ·
  rename_i e1 e2;cases e2;exact h
 ·
  exact ⟨(fun e=>by cases e),fun _=>h⟩
end
def aGy (l:List (Nat × Option Nat)) (i:Nat):Option (Nat × Nat):=match l[i]? with | some (o,some n)=>some (o,n) | _=>none
def aBP (P:Program) (t:TypeId):Option (List (Nat × Option Nat)):=match wV P t with | some fs=>some (fs.toList.map fun x=>(x.offset,(P.info? x.type).map (·.size))) | _=>none
theorem nF {P:Program}{t:TypeId}{l:List (Nat × Option Nat)} (h:aBP P t=some l) (i:Nat):mA P t i=aGy l i:=by
 unfold aBP at h
 unfold mA aGy
 split at h
 ·
  rename_i fs hf
  cases h
  simp only [hf,List.getElem?_map,Array.getElem?_toList]
  cases hx:fs[i]? with
  | none=>rfl
  | some x=>simp only [Option.map_some];cases P.info? x.type <;> rfl
 ·
  cases h
section
variable {P:Program}{V:List Nat}{k0:Nat}{Q:Exit→Fr→St→Prop}{fr:Fr}{σ:St}{K:Fr→St→Prop}
def aME (k0:Nat) (Q:Exit→Fr→St→Prop):Prop:=∀ fr σ fr' σ',kK k0 fr σ fr' σ'→Q .normal fr' σ'→Q .normal fr σ
def kw (P:Program) (V:List Nat) (k0:Nat) (y:Code) (Q:Exit→Fr→St→Prop):Fr→St→Prop:=fun fr σ=>∃ fr' σ',kK k0 fr σ fr' σ'∧pR P V k0 y Q fr' σ'
theorem aU {x y:Code} (h:pR P V k0 x (aA8 (kw P V k0 y Q) Q) fr σ):pR P V k0 (.seq x y) Q fr σ:=by
 refine yE x (fun e fr σ he=>?_) h
 cases e with
 | normal=>exact he
 | _=>exact he
theorem cM {y:Code} (h:pR P V k0 y Q fr σ):aA8 (kw P V k0 y Q) Q .normal fr σ:=⟨fr,σ,kK.refl _ _ _,h⟩
theorem mO {y:Code}{Q':Exit→Fr→St→Prop}:aME k0 (aA8 (kw P V k0 y Q) Q'):=fun fr σ fr' σ' hw ⟨fr2,σ2,hw2,h⟩=>⟨fr2,σ2,hw.trans hw2,h⟩
theorem gZ {x:Code}{J:Type} (hQ:aME k0 Q) (C:J→Prop) (F:J→Fr) (G:J→St) (h:pR P V k0 x (aA8 (fun fr σ=>∃ j,C j∧kK k0 fr σ (F j) (G j)) Q) fr σ) (h2:∀ j,C j→Q .normal (F j) (G j)):pR P V k0 x Q fr σ :=
 yE x (fun e fr σ he=>by
  cases e with
  | normal=>obtain ⟨j,h1,h3⟩:=he;exact hQ _ _ _ _ h3 (h2 j h1)
  | _=>exact he) h
theorem pG {J:Type}{C:J→Prop}{F:J→Fr}{G:J→St} (j:J) (h:C j) (hw:kK k0 fr σ (F j) (G j)):aA8 (fun fr σ=>∃ j,C j∧kK k0 fr σ (F j) (G j)) Q .normal fr σ:=⟨j,h,hw⟩
end
def aOw (k:IntKind) (n:Int):List PV:=[.int k n]
def gL (s:List UInt8):List PV:=[.str s]
theorem pX {α:Type}{row:α→List PV}:([]:List (List PV))=([]:List α).map row:=rfl
theorem gX {α:Type}{row:α→List PV}{p:List PV}{ps:List (List PV)}{x:α}{xs:List α} (h:row x=p) (t:ps=xs.map row):p :: ps=(x :: xs).map row:=by simp [h,t]
end Go.Proofs.YtnigjppddilpcaaGreatDoor.Abs
namespace Go.Proofs.YtnigjppddilpcaaGreatDoor.Abs
open Go
set_option linter.unusedVariables false
set_option linter.unusedSimpArgs false
variable {mo:Bool}
theorem St.dem_upd (f:Nat→Bool) (σ:St) (d:Nat):σ.after [] d []=σ.dem fun t=>t / 16==d:=by simp [St.after,St.upd,aCy]
section
variable {P:Program}{all r:List Oper}{d:Nat}{op:Op}{ty:TypeId}{pos:String}{af:Array Edge}{fr:Fr}{σ:St}{K:Fr→St→Prop}{v:AV}
theorem lM (hv:Ov P ⟨some d,op,ty,pos,af,none⟩ fr σ v) (h:gP mo P all r ((d,v) :: fr) σ K):gP mo P all (⟨some d,op,ty,pos,af,none⟩ :: r) fr σ K:=by
 refine mR ?_
 exact hv _ h
theorem bC {gd:Option (Nat × Bool)}{fo:Operand}{args:Array Operand}{ts:Array TypeId}{f:FuncId}{caps as:List AV}{rv:AV} (hf:fr.ev fo=.fn f caps) (hc:cC P f as [] rv []) (ha:leP (AV.lowL [] (args.toList.map fr.ev++caps)) as)
  (hfr:(fr.dem fun t=>t / 16==d)=fr) (hσ:(σ.dem fun t=>t / 16==d)=σ) (hv:rv.lift [] σ.length d=v) :
  Ov P ⟨some d,.call { callee:=.value fo,args:=args,argTypes:=ts },ty,pos,af,gd⟩ fr σ v:=fun K hk=>by
 unfold aop
 simp only [hf,aDX]
 refine ⟨d,[],[],as,[],rv,[],.nil,.nil,by simp,zB ha,by simp [St.sub];exact .nil,hc,?_⟩
 simp only [Option.getD_some,aCy,hfr,hv,St.dem_upd (fun _=>true),hσ]
 exact hk
end
theorem aPG {α:Type}{P:Program}{all r:List Oper}{d:Nat}{ty t t2:TypeId}{pos:String}{af:Array Edge}{fr:Fr}{σ:St}{K:Fr→St→Prop}{sz:Nat}{row:α→List PV}{xs:List α}{x:Operand} (ht:fP P t=3) (hx:isl (fr.ev x) sz row xs)
  (h:∀ b:Bool,(b=true→xs=[])→gP mo P all r ((d,.c (.bool b)) :: fr) σ K):gP mo P all (⟨some d,.binOp .eql t x (.const (.slice .none 0 0)) t2,ty,pos,af,none⟩ :: r) fr σ K:=by
 refine mR ?_
 have hk:∀ b:Bool,(b=true→xs.map row=[])→gP mo P all r ((d,.c (.bool (b != false))) :: fr) σ K:=fun b hb=>by
  have:=h b (fun e=>by simpa using hb e)
  simpa using this
 have hn:fr.ev (.const (.slice .none 0 0))=.nil:=rfl
 rcases hx with hx | ⟨t0,hx⟩ <;> simp only [aop,wA,aJS,hx,hn,PV.ls,AV.os] <;> exact ⟨ht,hk⟩
theorem aKY {n:Int}{x:UInt8} (h:uF n=some x):gA x=[.int .u8 n]:=by rw [aIy h];rfl
theorem cZ {cs bs:List AV}{σ σ':St} (h:cs=bs) (t:leS σ σ'):leS (cs :: σ) (bs :: σ'):=by subst h;exact .cons (AV.leL_refl _) t
section
variable {k0:Nat}{Q:Exit→Fr→St→Prop}{fr:Fr}{σ:St}
theorem e_l {S R:Type}{st:bS S R}{F:S→Fr}{G:S→St} (s:S) (h:st=.next s) (hw:kK k0 fr σ (F s) (G s)):aA8 (fun fr σ=>∃ s',st=.next s'∧kK k0 fr σ (F s') (G s')) Q .normal fr σ:=⟨s,h,hw⟩
end
theorem fK {x v w:AV}{ids:List Nat} (h:x=v) (hl:(v.low ids).le w):(x.low ids).le w:=by rw [h];exact hl
theorem uL {P:Program}{o:Oper}{ev:Operand→AV}{σ:St}{p q:PV} (h:Pv P o ev σ (.c p)) (he:p=q):Pv P o ev σ (.c q):=he ▸ h
def aNa (f:Nat→Bool):Fr→Prop
 | []=>True
 | (_,a) :: r=>AV.dem f a=a∧aNa f r
theorem fF {f:Nat→Bool}:aNa f []:=trivial
theorem aZ {f:Nat→Bool}{i:Nat}{a:AV}{r:Fr} (h:AV.dem f a=a) (t:aNa f r):aNa f ((i,a) :: r):=⟨h,t⟩
theorem uH {f:Nat→Bool}{c:Bool}{v:AV} (h:AV.dem f v=v):AV.dem f (gv c v)=gv c v:=by
 cases c
 ·
  rfl
 ·
  exact h
theorem gJ {f:Nat→Bool}:∀ {fr:Fr},aNa f fr→Fr.dem f fr=fr
 | [],_=>rfl
 | (i,a) :: r,h=>by simp only [Fr.dem,h.1,gJ h.2]
end Go.Proofs.YtnigjppddilpcaaGreatDoor.Abs
namespace Go.Proofs.YtnigjppddilpcaaGreatDoor.Abs
open Go
set_option linter.unusedVariables false
set_option linter.unusedSimpArgs false
section
variable {P:Program}{ops:Array Oper}{r:List PI}{i:Nat}{rl:List Nat}{d dj j:Nat}{op:Op}{ty:TypeId}{pos:String}{af:Array Edge}{fr:Fr}{σ:St}{K:Fr→St→Prop}{v:AV}{b c w:Bool}
theorem aO1 {o:Oper} (h:Qv P o fr σ v):AQ P o fr.ev σ v:=by
 obtain ⟨u,h1,h2⟩:=aJ0 (h (fun x=>x=v) rfl)
 rw [← h2];exact h1
theorem aQf {fr':Fr}{V:List Nat}{Q:Exit→Fr→St→Prop} (hp:prune V fr=fr') (h:Q .normal fr' σ):ad P ops [] fr σ fun fr σ=>hold (Q .normal (prune V fr) σ):=by
 subst hp;exact h
theorem d_q (ho:ops[i]?=some ⟨some d,op,ty,pos,af,none⟩) (hv:Qv P ⟨some d,op,ty,pos,af,none⟩ fr σ v) (h:ad P ops r ((d,v) :: fr) σ K):ad P ops (.q i :: r) fr σ K:=by
 simp only [ad,ho,kP]
 exact ⟨v,aO1 hv,h⟩
theorem d_n {o:Oper} (ho:ops[i]?=some o) (h:gP false P ops.toList [o] fr σ fun fr' σ'=>RC P ops σ' fr' rl∧ad P ops r fr' σ' K) (hg:o.guard=none):ad P ops (.n i rl :: r) fr σ K:=by
 obtain ⟨dst,op,ty,pos,af,guard⟩:=o
 cases hg
 simp only [ad,ho,kP]
 exact h
theorem aBD {all:List Oper} (h:K fr σ):gP false P all [] fr σ K:=h
theorem pS:RC P ops σ fr []:=trivial
theorem aEv {q:Nat} (ho:ops[q]?=some ⟨some d,op,ty,pos,af,none⟩) (hd:fr.get d=v) (hv:Qv P ⟨some d,op,ty,pos,af,none⟩ fr σ v) (t:RC P ops σ fr rl):RC P ops σ fr (q :: rl):=by
 refine ⟨⟨_,d,ho,rfl,?_⟩,t⟩
 rw [hd]
 show AQ P _ _ σ v
 rw [aEM]
 exact aO1 hv
end
def aNR (acc:List Nat) (o:Oper):Nat:=o.after.toList.foldl (fun m e=>if Region.binds .any e then m ||| (1 <<< e.on) ||| acc.getD e.on 0 else m) 0
def aBN:List Oper→List Nat→List Nat
 | [],acc=>acc
 | o :: r,acc=>aBN r (acc++[aNR acc o])
theorem aFj {acc:List Nat}:∀ (l:List Edge) (m j:Nat),(l.foldl (fun m e=>if Region.binds .any e then m ||| (1 <<< e.on) ||| acc.getD e.on 0 else m) m).testBit j=true→m.testBit j=true∨∃ e∈l,Region.binds .any e=true∧(e.on=j∨(acc.getD e.on 0).testBit j=true)
 | [],m,j,h=>.inl h
 | e :: l,m,j,h=>by
  simp only [List.foldl_cons] at h
  rcases aFj l _ j h with h1 | ⟨e',he',h1⟩
  ·
   cases hb:Region.binds .any e with
   | false=>rw [hb] at h1;simp at h1;exact .inl h1
   | true =>
    rw [hb,if_pos rfl,Nat.testBit_or,Nat.testBit_or,Bool.or_eq_true,Bool.or_eq_true] at h1
    rcases h1 with (h1 | h1) | h1
    ·
     exact .inl h1
    ·
     refine .inr ⟨e,by simp,hb,.inl ?_⟩
     rw [Nat.one_shiftLeft,Nat.testBit_two_pow] at h1
     simpa using h1
    ·
     exact .inr ⟨e,by simp,hb,.inr h1⟩
  ·
   exact .inr ⟨e',List.mem_cons_of_mem _ he',h1⟩
theorem aDs:∀ (l:List Oper) (acc:List Nat) (i:Nat),i<acc.length→(aBN l acc).getD i 0=acc.getD i 0
 | [],acc,i,h=>rfl
 | o :: r,acc,i,h=>by
  simp only [aBN]
  rw [aDs r _ i (by simp;omega)]
  rw [List.getD_eq_getElem?_getD,List.getD_eq_getElem?_getD,List.getElem?_append_left h]
theorem aIR:∀ (l:List Oper) (acc:List Nat) (k:Nat) (o:Oper),l[k]?=some o→∃ acc',acc'.length=acc.length+k∧(∀ i,i<acc'.length→acc'.getD i 0=(aBN l acc).getD i 0)∧(aBN l acc).getD (acc.length+k) 0=aNR acc' o
 | [],acc,k,o,h=>by simp at h
 | x :: r,acc,0,o,h=>by
  simp at h;subst h
  refine ⟨acc,rfl,fun i hi=>?_,?_⟩
  ·
   simp only [aBN]
   rw [aDs r _ i (by simp;omega),List.getD_eq_getElem?_getD,List.getD_eq_getElem?_getD,List.getElem?_append_left hi]
  ·
   simp only [aBN,Nat.add_zero]
   rw [aDs r _ _ (by simp)]
   simp [List.getD_eq_getElem?_getD]
 | x :: r,acc,k+1,o,h=>by
  simp at h
  obtain ⟨acc',h1,h2,h3⟩:=aIR r (acc++[aNR acc x]) k o h
  refine ⟨acc',by rw [h1];simp;omega,h2,?_⟩
  rw [← h3]
  simp only [aBN]
  congr 1
  simp;omega
theorem aFy {ops:Array Oper} (hord:∀ i,i<ops.size→∃ o,ops[i]?=some o∧∀ e∈o.after,Region.binds .any e=true→e.on<i):∀ (n i j:Nat),i<n→i<ops.size→((aBN ops.toList []).getD i 0).testBit j=true→kJ ops n j i=true
 | 0,i,j,h,_,_=>by omega
 | n+1,i,j,h,hi,hb=>by
  obtain ⟨o,ho,hlt⟩:=hord i hi
  obtain ⟨acc',h1,h2,h3⟩:=aIR ops.toList [] i o (by rw [Array.getElem?_toList];exact ho)
  simp only [List.length_nil,Nat.zero_add] at h1 h3
  rw [h3] at hb
  rcases aFj o.after.toList 0 j hb with h4 | ⟨e,he,hbe,h4⟩
  ·
   simp at h4
  ·
   have he':e∈o.after:=by simpa using he
   have hel:=hlt e he' hbe
   simp only [kJ,ho]
   refine Array.any_eq_true'.2 ⟨e,he',?_⟩
   simp only [hbe,Bool.true_and,Bool.or_eq_true,beq_iff_eq]
   rcases h4 with h4 | h4
   ·
    exact .inl h4
   ·
    rw [h2 e.on (by omega)] at h4
    exact .inr (aFy hord n e.on j (by omega) (by omega) h4)
abbrev Tab:=List (Option Nat × List Nat)
def aBS (ops:Array Oper):Tab:=ops.toList.map fun o=>(o.dst,o.looksAt ops)
def aE7 (tab:Tab) (i j:Nat):Bool:=match tab[i]?,tab[j]? with
 | some (d,_),some (dj,lj)=>(match d with | some d=>!lj.contains d&&(i==j||dj != some d) | _=>true)
 | _,_=>false
def aNq (tab:Tab) (j i:Nat):Bool:=match tab[j]?,tab[i]? with
 | some (dj,_),some (_,li)=>(match dj with | some d=>li.contains d | _=>false)
 | _,_=>true
def aJ5 (ms:List Nat) (j i:Nat):Bool:=(ms.getD i 0).testBit j
def okT (tab:Tab) (ms:List Nat):List PI→List Nat→Bool
 | [],_=>true
 | it :: r,done =>
  decide (it.ix<tab.length)&&!done.contains it.ix&&(done.all fun j=>!aNq tab j it.ix||aJ5 ms j it.ix) &&
  (match it with
   | .q i=>(match tab[i]? with | some (some _,_)=>true | _=>false)&&aE7 tab i i&&(done.all fun j=>aE7 tab i j)
   | .n i rl=>(done.all fun j=>aE7 tab i j||aJ5 ms j i)&&(r.all fun x=>aJ5 ms i x.ix)&&(done.all fun j=>rl.contains j||aJ5 ms j i)) &&
  okT tab ms r (it.ix :: done)
def aNs:Nat→List Oper→Bool
 | _,[]=>true
 | i,o :: r=>(o.after.toList.all fun e=>!Region.binds .any e||Nat.blt e.on i)&&aNs (i+1) r
def aNx (ops:Array Oper) (pl:List PI) (tab:Tab) (ms:List Nat):Bool :=
 decide (aBS ops=tab)&&decide (aBN ops.toList []=ms)&&aNs 0 ops.toList&&okT tab ms pl []&&((List.range tab.length).all fun i=>pl.any fun x=>x.ix==i)
theorem aI1:∀ (l:List Oper) (k i:Nat) (o:Oper),aNs k l=true→l[i]?=some o→∀ e∈o.after,Region.binds .any e=true→e.on<k+i
 | [],k,i,o,_,h=>by simp at h
 | x :: r,k,0,o,h,ho=>by
  simp at ho;subst ho
  simp only [aNs,Bool.and_eq_true] at h
  intro e he hb
  have:=List.all_eq_true.1 h.1 e (by simpa using he)
  simp only [hb,Bool.not_true,Bool.false_or] at this
  exact aDf this
 | x :: r,k,i+1,o,h,ho=>by
  simp at ho
  simp only [aNs,Bool.and_eq_true] at h
  intro e he hb
  have:=aI1 r (k+1) i o h.2 ho e he hb
  omega
theorem aC1 (ops:Array Oper) (i:Nat):(aBS ops)[i]?=(ops[i]?).map fun o=>(o.dst,o.looksAt ops):=by
 unfold aBS
 rw [List.getElem?_map,Array.getElem?_toList]
theorem aHz {ops:Array Oper}{i j:Nat}:aE7 (aBS ops) i j=xT ops i j:=by
 unfold aE7 xT
 rw [aC1,aC1]
 cases ops[i]? <;> cases ops[j]? <;> rfl
theorem aPE {ops:Array Oper}{i j:Nat}:aNq (aBS ops) j i=aAS ops j i:=by
 unfold aNq aAS
 rw [aC1,aC1]
 cases ops[i]? <;> cases ops[j]? <;> rfl
theorem aCr {α:Type}{l:List α}{p q:α→Bool} (h:∀ x∈l,p x=true→q x=true) (hp:l.all p=true):l.all q=true:=List.all_eq_true.2 fun x hx=>h x hx (List.all_eq_true.1 hp x hx)
theorem aK6 {ops:Array Oper}{ms:List Nat} (hw:∀ i j,i<ops.size→aJ5 ms j i=true→kJ ops ops.size j i=true):∀ (pl:List PI) (done:List Nat),okT (aBS ops) ms pl done=true→okL ops pl done=true
 | [],_,_=>rfl
 | it :: r,done,h=>by
  simp only [okT,Bool.and_eq_true] at h
  obtain ⟨⟨⟨⟨h1,h2⟩,h3⟩,h4⟩,h5⟩:=h
  have hlt:it.ix<ops.size:=by have:=of_decide_eq_true h1;simpa [aBS] using this
  have hi:∀ {j:Nat},aJ5 ms j it.ix=true→kJ ops ops.size j it.ix=true:=fun hb=>hw _ _ hlt hb
  simp only [okL,Bool.and_eq_true]
  refine ⟨⟨⟨⟨decide_eq_true hlt,h2⟩,aCr (fun j _ h=>?_) h3⟩,?_⟩,aK6 hw r _ h5⟩
  ·
   rw [aPE,Bool.or_eq_true] at h
   rw [Bool.or_eq_true]
   exact h.imp id hi
  ·
   cases it with
   | q i =>
    simp only [Bool.and_eq_true] at h4 ⊢
    refine ⟨⟨?_,by rw [← aHz];exact h4.1.2⟩,aCr (fun j _ h=>by rw [← aHz];exact h) h4.2⟩
    have h6:=h4.1.1
    rw [aC1] at h6
    cases ho:ops[i]? with
    | none=>rw [ho] at h6;cases h6
    | some o =>
     rw [ho] at h6
     simp only [Option.map_some] at h6
     split at h6
     ·
      rename_i d l he;simp only [Option.some.injEq,Prod.mk.injEq] at he;simp [he.1]
     ·
      cases h6
   | n i rl =>
    have hi:∀ {j:Nat},aJ5 ms j i=true→kJ ops ops.size j i=true:=hi
    simp only [Bool.and_eq_true] at h4 ⊢
    refine ⟨⟨aCr (fun j _ h=>?_) h4.1.1,aCr (fun x hx h=>?_) h4.1.2⟩,aCr (fun j _ h=>?_) h4.2⟩
    ·
     rw [aHz,Bool.or_eq_true] at h
     rw [Bool.or_eq_true]
     exact h.imp id hi
    ·
     by_cases hx2:x.ix<ops.size
     ·
      exact hw _ _ hx2 h
     ·
      exfalso
      have key:∀ (l:List PI) (dn:List Nat),okT (aBS ops) ms l dn=true→∀ y∈l,y.ix<ops.size:=by
       intro l
       induction l with
       | nil=>intro dn _ y hy;cases hy
       | cons z l ihl =>
        intro dn hz y hy
        simp only [okT,Bool.and_eq_true] at hz
        rcases List.mem_cons.1 hy with rfl | hy
        ·
         have:=of_decide_eq_true hz.1.1.1.1;simpa [aBS] using this
        ·
         exact ihl _ hz.2 y hy
      exact hx2 (key r _ h5 x hx)
    ·
     rw [Bool.or_eq_true] at h ⊢
     exact h.imp id hi
theorem aNy {ops:Array Oper}{pl:List PI}{tab:Tab}{ms:List Nat} (h:aNx ops pl tab ms=true):aDv ops pl=true:=by
 simp only [aNx,Bool.and_eq_true] at h
 obtain ⟨⟨⟨⟨h1,h2⟩,h3⟩,h4⟩,h5⟩:=h
 have h1:=of_decide_eq_true h1
 have h2:=of_decide_eq_true h2
 subst h1 h2
 have hord:∀ i,i<ops.size→∃ o,ops[i]?=some o∧∀ e∈o.after,Region.binds .any e=true→e.on<i:=fun i hi=>by
  refine ⟨_,Array.getElem?_eq_getElem hi,fun e he hb=>?_⟩
  have:=aI1 ops.toList 0 i _ h3 (by rw [Array.getElem?_toList];exact Array.getElem?_eq_getElem hi) e he hb
  omega
 simp only [aDv,Bool.and_eq_true]
 refine ⟨⟨aK6 (fun i j hi hb=>aFy hord ops.size i j hi hi hb) pl [] h4,by simpa [aBS] using h5⟩,List.all_eq_true.2 fun i hi=>?_⟩
 obtain ⟨o,ho,hlt⟩:=hord i (List.mem_range.1 hi)
 rw [ho]
 refine Array.all_eq_true'.2 fun e he=>?_
 cases hb:Region.binds .any e with
 | false=>rfl
 | true=>simp [hlt e he hb]
theorem jD {P:Program}{V:List Nat}{k0:Nat}{Q:Exit→Fr→St→Prop}{fr:Fr}{σ:St} (pl:List PI) (tab:Tab) (ms:List Nat) {id:Nat}{l:List Oper} (hB:aNx l.toArray pl tab ms=true) (h:ad P l.toArray pl fr σ fun fr σ=>hold (Q .normal (prune V fr) σ)):pR P V k0 (.region id l.toArray true) Q fr σ :=
 aP9 pl (aNy hB) h
end Go.Proofs.YtnigjppddilpcaaGreatDoor.Abs
namespace Go.Proofs.YtnigjppddilpcaaGreatDoor.Abs
open Go
set_option linter.unusedVariables false
set_option linter.unusedSimpArgs false
def aMs (P:Program) (t:TypeId):Option (List TypeId):=match P.underlying t with | some (.struct fs)=>some (fs.toList.map (·.type)) | _=>none
def aNT (P:Program) (t:TypeId):Option (TypeId × Nat):=match P.underlying t with | some (.slice e)=>some (e,P.cellsOf e) | _=>none
def lV (x:Int):Prop:=-9223372036854775808≤x∧x≤9223372036854775807
def okW (k:IntKind) (x:Int):Prop:=(Lit.int k x).wf=true
def vC (s:List UInt8):Prop:=s.length≤140737488351232
def wF {α:Type} (k:Nat) (ok:α→Prop) (xs:List α):Prop:=xs.length≤9223372036854775807∧xs.length*k≤140737488351232∧∀ x∈xs,ok x
section
variable {P:Program}{n:Nat}{t e:TypeId}{ps:List PV}
theorem aPY {k:IntKind} (h:xQ P t=some k) (hs:iB P n t ps):∃ x,ps=[.int k x]∧okW k x:=by
 cases n with
 | zero=>exact hs.elim
 | succ n =>
  have hu:=aAg h
  simp only [iB,hu] at hs
  exact hs
theorem aRk {x:Int} (h:okW .i64 x):lV x:=by
 unfold okW Lit.wf at h
 unfold lV
 simp only [Bool.and_eq_true,decide_eq_true_eq] at h
 exact ⟨h.1,h.2⟩
theorem mY (h:xQ P t=some .i64) (hs:iB P n t ps):∃ x,ps=[.int .i64 x]∧lV x:=by
 obtain ⟨x,h1,h2⟩:=aPY h hs
 exact ⟨x,h1,aRk h2⟩
theorem wQ (h:fP P t=2) (hs:iB P n t ps):∃ x,ps=[.str x]∧vC x:=by
 cases n with
 | zero=>exact hs.elim
 | succ n =>
  have hu:=aEm h
  simp only [iB,hu] at hs
  exact hs
theorem aK4 {α:Type}{row:α→List PV}{ok:α→Prop}:∀ (xs:List (List PV)),(∀ x∈xs,∃ a,x=row a∧ok a)→∃ as:List α,xs=as.map row∧∀ a∈as,ok a
 | [],_=>⟨[],rfl,by simp⟩
 | x :: xs,h=>by
  obtain ⟨a,rfl,ha⟩:=h x (by simp)
  obtain ⟨as,rfl,has⟩:=aK4 xs (fun y hy=>h y (by simp [hy]))
  exact ⟨a :: as,rfl,by simpa using ⟨ha,has⟩⟩
theorem aLd {α:Type}{sz k:Nat}{row:α→List PV}{ok:α→Prop} (h:aNT P t=some (e,sz)) (hk:P.bytesOf e=k) (hs:iB P n t ps) (conv:∀ m,m<n→∀ qs,iB P m e qs→∃ a:α,qs=row a∧ok a):∃ xs:List α,ps=[PV.ls sz row xs]∧wF k ok xs:=by
 cases n with
 | zero=>exact hs.elim
 | succ n =>
  unfold aNT at h
  cases hu:P.underlying t with
  | none=>simp [hu] at h
  | some d =>
   cases d <;> simp [hu] at h
   rename_i e'
   obtain ⟨rfl,rfl⟩:=h
   simp only [iB,hu] at hs
   obtain ⟨xs,rfl,hx,hl,hl2⟩:=hs
   rw [hk] at hl2
   obtain ⟨as,rfl,has⟩:=aK4 (row:=row) (ok:=ok) xs (fun x hxm=>conv n (by omega) x (hx x hxm))
   exact ⟨as,rfl,by simpa using hl,by simpa using hl2,has⟩
theorem aLe {l:List TypeId} (h:aMs P t=some l) (hs:iB P n t ps):∃ m,m<n∧aEL (iB P m) l ps:=by
 cases n with
 | zero=>exact hs.elim
 | succ n =>
  unfold aMs at h
  cases hu:P.underlying t with
  | none=>simp [hu] at h
  | some d =>
   cases d <;> simp [hu] at h
   subst h
   simp only [iB,hu] at hs
   exact ⟨n,by omega,by simpa using hs⟩
end
end Go.Proofs.YtnigjppddilpcaaGreatDoor.Abs
namespace Go.Proofs.YtnigjppddilpcaaGreatDoor.Abs
open Go
set_option linter.unusedVariables false
set_option linter.unusedSimpArgs false
def AV.ar {α:Type} (row:α→List PV) (xs:List α):AV:=.agg (AV.cs ((xs.map row).flatten))
theorem aOd (f:Nat→Bool) (l:List PV):AV.demL f (AV.cs l)=AV.cs l:=by rw [AV.demL_eq];simp [AV.cs,AV.dem]
theorem uG {α:Type}{row:α→List PV}{xs:List α}{f:Nat→Bool}:(AV.ar row xs).dem f=AV.ar row xs:=by simp only [AV.ar,AV.dem,aOd]
section
variable {P:Program}{d:Option Tmp}{ty:TypeId}{pos:String}{af:Array Edge}{gd:Option (Nat × Bool)}{ev:Operand→AV}{σ:St}{x y z:Operand}{t t2:TypeId}{k k':IntKind}{a b:Int}{v:AV}
end
end Go.Proofs.YtnigjppddilpcaaGreatDoor.Abs
namespace Go.Proofs.YtnigjppddilpcaaGreatDoor.Abs
open Go
set_option linter.unusedVariables false
set_option linter.unusedSimpArgs false
variable {mo:Bool}
def AV.ms {α:Type} (t sz:Nat) (row:α→List PV) (xs:List α):AV:=.mrow t sz (xs.map row)
section
variable {P:Program}{d:Option Tmp}{ty:TypeId}{pos:String}{af:Array Edge}{gd:Option (Nat × Bool)}{ev:Operand→AV}{σ:St}{x y z:Operand}{t t2:TypeId}{k k':IntKind}{v:AV}
end
section
variable {P:Program}{all r:List Oper}{d:Nat}{ty:TypeId}{pos:String}{af:Array Edge}{fr:Fr}{σ:St}{K:Fr→St→Prop}{v:AV}
end
end Go.Proofs.YtnigjppddilpcaaGreatDoor.Abs
namespace Go.Proofs.YtnigjppddilpcaaGreatDoor.Abs
open Go
set_option linter.unusedVariables false
set_option linter.unusedSimpArgs false
variable {mo:Bool}
theorem r {α:Sort _}{a:α}:a=a:=rfl
theorem sy {α:Type}{a b:α} (h:some a=some b):b=a:=(Option.some.inj h).symm
theorem lr {a:AV}:a.le a:=AV.le_refl a
def keys:Fr→List Nat
 | []=>[]
 | (i,_) :: r=>i :: keys r
def aMq (V:List Nat):List Nat→Bool
 | []=>true
 | i :: r=>V.contains i&&aMq V r
theorem aJv {V:List Nat}:∀ {l:List Nat},aMq V l=true→∀ i∈l,i∈V
 | [],_,i,hi=>by cases hi
 | j :: l,h,i,hi=>by
  simp only [aMq,Bool.and_eq_true,List.contains_iff_mem] at h
  rcases List.mem_cons.1 hi with rfl | hi
  ·
   exact h.1
  ·
   exact aJv h.2 i hi
theorem aHf {V l:List Nat}{fr:Fr} (h:aMq V l=true) (d:Nat):((prune V fr).get d).le ((prune l fr).get d):=by
 rw [aDw,aDw]
 by_cases hd:d∈l
 ·
  rw [if_pos hd,if_pos (aJv h d hd)];exact AV.le_refl _
 ·
  rw [if_neg hd];exact AV.le_any _
section
variable {P:Program}{V:List Nat}{k0:Nat}{Q:Exit→Fr→St→Prop}{fr:Fr}{σ:St}
theorem aH {all:List Oper}{y:Code}{fr':Fr} (hk:aMq V (keys fr')=true) (hp:prune (keys fr') fr=fr') (h:pR P V k0 y Q fr' σ):gP mo P all [] fr σ fun fr σ=>hold (aA8 (kw P V k0 y Q) Q .normal (prune V fr) σ):=by
 refine ⟨fr',σ,kK.slots fun d=>?_,h⟩
 have:=aHf (fr:=fr) hk d
 rw [hp] at this
 exact this
theorem xA {ops:Array Oper}{y:Code}{fr':Fr} (hk:aMq V (keys fr')=true) (hp:prune (keys fr') fr=fr') (h:pR P V k0 y Q fr' σ):ad P ops [] fr σ fun fr σ=>hold (aA8 (kw P V k0 y Q) Q .normal (prune V fr) σ):=by
 refine ⟨fr',σ,kK.slots fun d=>?_,h⟩
 have:=aHf (fr:=fr) hk d
 rw [hp] at this
 exact this
theorem aK {id:Nat}{l:List Oper}{y:Code} (h:gP true P l l fr σ fun fr σ=>hold (aA8 (kw P V k0 y Q) Q .normal (prune V fr) σ)):pR P V k0 (.seq (.region id l.toArray false) y) Q fr σ:=aU (aX h)
theorem cV {α:Type}{c:Operand}{x y:Code}{b:Bool}{X Y:Option α}{r:α} (he:cond b X Y=some r) (h:fr.ev c=.c (.bool b)) (h1:b=true→X=some r→pR P V k0 x Q fr σ) (h2:b=false→Y=some r→pR P V k0 y Q fr σ):pR P V k0 (.cond c x y) Q fr σ :=
 aH6 b h (fun hb=>h1 hb (aMX hb he)) (fun hb=>h2 hb (aMW hb he))
end
theorem aQx {α:Type}{G:Prop}{b:Bool}{X Y:Option α}{r:α} (he:cond b X Y=some r) (h1:b=true→X=some r→G) (h2:b=false→Y=some r→G):G:=by
 cases hb:b
 ·
  exact h2 hb (aMW hb he)
 ·
  exact h1 hb (aMX hb he)
section
variable {P:Program}{all r:List Oper}{ops:Array Oper}{rp:List PI}{d dj j i:Nat}{op:Op}{ty:TypeId}{pos:String}{af:Array Edge}{fr:Fr}{σ:St}{K:Fr→St→Prop}{v:AV}{b c w:Bool}{x:Operand}
theorem mV (hx:fr.ev x=v) (h:gP mo P all r ((d,v) :: fr) σ K):gP mo P all (⟨some d,.move x,ty,pos,af,none⟩ :: r) fr σ K:=aT rfl (bA hx) h
theorem sV (hx:fr.ev x=v) (h:gP mo P all r ((d,v) :: fr) σ K):gP mo P all (⟨some d,.assign x,ty,pos,af,none⟩ :: r) fr σ K:=aT rfl (aCK hx) h
theorem mI {k:IntKind}{n:Int} (hx:fr.ev x=.c (.int k n)) (h:gP mo P all r ((d,.c (.int k n)) :: fr) σ K):gP mo P all (⟨some d,.move x,ty,pos,af,none⟩ :: r) fr σ K:=mV hx h
theorem sI {k:IntKind}{n:Int} (hx:fr.ev x=.c (.int k n)) (h:gP mo P all r ((d,.c (.int k n)) :: fr) σ K):gP mo P all (⟨some d,.assign x,ty,pos,af,none⟩ :: r) fr σ K:=sV hx h
theorem mB {n:Bool} (hx:fr.ev x=.c (.bool n)) (h:gP mo P all r ((d,.c (.bool n)) :: fr) σ K):gP mo P all (⟨some d,.move x,ty,pos,af,none⟩ :: r) fr σ K:=mV hx h
theorem sB {n:Bool} (hx:fr.ev x=.c (.bool n)) (h:gP mo P all r ((d,.c (.bool n)) :: fr) σ K):gP mo P all (⟨some d,.assign x,ty,pos,af,none⟩ :: r) fr σ K:=sV hx h
theorem mS {s:List UInt8} (hx:fr.ev x=.c (.str s)) (h:gP mo P all r ((d,.c (.str s)) :: fr) σ K):gP mo P all (⟨some d,.move x,ty,pos,af,none⟩ :: r) fr σ K:=mV hx h
theorem sS {s:List UInt8} (hx:fr.ev x=.c (.str s)) (h:gP mo P all r ((d,.c (.str s)) :: fr) σ K):gP mo P all (⟨some d,.assign x,ty,pos,af,none⟩ :: r) fr σ K:=sV hx h
theorem mL {α:Type}{sz:Nat}{row:α→List PV}{xs:List α} (hx:fr.ev x=.c (PV.ls sz row xs)) (h:gP mo P all r ((d,.c (PV.ls sz row xs)) :: fr) σ K):gP mo P all (⟨some d,.move x,ty,pos,af,none⟩ :: r) fr σ K:=mV hx h
theorem sL {α:Type}{sz:Nat}{row:α→List PV}{xs:List α} (hx:fr.ev x=.c (PV.ls sz row xs)) (h:gP mo P all r ((d,.c (PV.ls sz row xs)) :: fr) σ K):gP mo P all (⟨some d,.assign x,ty,pos,af,none⟩ :: r) fr σ K:=sV hx h
theorem og (hp:vE ⟨some d,op,ty,pos,af,some (j,w)⟩=true) (hj:aCC all j=some dj) (hs:fr.get dj=.c (.bool b)) (hv:(b==w)=true→Pv P ⟨some d,op,ty,pos,af,some (j,w)⟩ fr.ev σ v) (h:gP mo P all r ((d,gv (b==w) v) :: fr) σ K):gP mo P all (⟨some d,op,ty,pos,af,some (j,w)⟩ :: r) fr σ K :=
 yS hj hs (fun hc=>fJ hp (hv hc)) h
theorem dq (ho:ops[i]?=some ⟨some d,op,ty,pos,af,none⟩) (hp:vE ⟨some d,op,ty,pos,af,none⟩=true) (hv:Pv P ⟨some d,op,ty,pos,af,none⟩ fr.ev σ v) (h:ad P ops rp ((d,v) :: fr) σ K):ad P ops (.q i :: rp) fr σ K:=d_q ho (aDy hp hv) h
end
open RowKit in
theorem aBX {P:Program}{f:FuncId}{args:List AV}{r:AV} (hc:yF P f=true)
  (h:∀ (g:G) (w:World) (vs:Array Value),dF g w vs args→(∀ b o,g.I b o→b<w.heap.size)→Glo g.I w→Calls P f vs w fun e w'=>∃ v,e=.returned v∧Below w.heap.size w w'∧∀ g',gW g' w' v r):cC P f args [] r []:=by
 refine ⟨hc,fun w I β τ vs hI hnd hlt hβI hτ hτi hlen hst hargs hglo=>?_⟩
 have hβ:β=[]:=List.eq_nil_of_length_eq_zero hlen
 subst hβ
 refine (h ⟨I,[],τ⟩ w vs hargs hI hglo).mono fun e w'=>?_
 rintro ⟨v,he,hb,hv⟩
 refine ⟨v,⟨I,[],fun _=>none⟩,he,⟨hb.os,hb.tape,hb.output,hb.size,fun b hb' _ _=>hb.block b hb',fun _ _ h=>h,fun _ _ h _ _=>h,fun b o h=>Nat.lt_of_lt_of_le (hI b o h) hb.size,rfl,by simp,List.nodup_nil,rfl,by simp,by simp,
  fun t b h=>(by cases h),fun t t' b h=>(by cases h),fun id cs b hs=>(by simp at hs),fun b o h=>(by simp [World.cell?,hb.block b (hI b o h)]),hglo⟩,hv _⟩
theorem aKB {I:Nat→Nat→Prop}{w:World}{v:Value}{s:List UInt8} (h:RV I w v (.str s)):v=.string ⟨s.toArray⟩:=by cases h;rfl
theorem aNG {g:G}{w:World}{v:Value}{p:PV} (h:gW g w v (.c p)):RV g.I w v p:=by cases h;assumption
theorem rc1 {g:G}{w:World}{vs:Array Value}{a:AV} (h:dF g w vs [a]):∃ v,vs=#[v]∧gW g w v a:=by
 obtain ⟨h1,h2⟩:=h
 obtain ⟨l⟩:=vs
 match l,h1 with
 | [v],_=>exact ⟨v,rfl,h2 0 v a rfl rfl⟩
theorem rc2 {g:G}{w:World}{vs:Array Value}{a b:AV} (h:dF g w vs [a,b]):∃ u v,vs=#[u,v]∧gW g w u a∧gW g w v b:=by
 obtain ⟨h1,h2⟩:=h
 obtain ⟨l⟩:=vs
 match l,h1 with
 | [u,v],_=>exact ⟨u,v,rfl,h2 0 u a rfl rfl,h2 1 v b rfl rfl⟩
theorem aPR {g:G}{w:World}{vs:Array Value}{s:List UInt8} (h:dF g w vs [.c (.str s)]):vs=#[.string ⟨s.toArray⟩]:=by
 obtain ⟨v,rfl,hv⟩:=rc1 h
 rw [aKB (aNG hv)]
theorem aLb {g:G}{w:World}{vs:Array Value}{s t:List UInt8} (h:dF g w vs [.c (.str s),.c (.str t)]):vs=#[.string ⟨s.toArray⟩,.string ⟨t.toArray⟩]:=by
 obtain ⟨u,v,rfl,hu,hv⟩:=rc2 h
 rw [aKB (aNG hu),aKB (aNG hv)]
theorem aNi {α:Type}{p:Prop} [Decidable p] {a b:α} (h:(if p then some a else none)=some b):p∧b=a:=by
 by_cases hp:p
 ·
  rw [if_pos hp] at h;exact ⟨hp,(Option.some.inj h).symm⟩
 ·
  rw [if_neg hp] at h;cases h
theorem aHH {P:Program}{I:Nat→Nat→Prop}{w:World} (h:Glo I w) {k:Nat}{p:Array Value→Prop} (hm:(k,p)∈aNe) {n:String} (hn:P.globalNamed n=some k):∃ cs,w.var? P n=some cs∧p cs:=by
 obtain ⟨_,cs,e,l,h2,_,h4⟩:=h _ hm
 exact ⟨cs,by simp [World.var?,hn,h2],h4⟩
end Go.Proofs.YtnigjppddilpcaaGreatDoor.Abs

/- The printed walks' steps: guards whose way is known, parts that may end in any way, types' places. The printed walks' steps: calls that are handed no variable, cells of bytes. The printed walks' steps in regions whose order is drawn. From a law's data to typed values. The printed walks' steps: arrays, and equality of structs. The printed walks' steps: rows that may be stored into, arrays told by slices. The printed walks' steps, in fewer signs. -/
import Derived.Test.YtnigjppddilpcaaGreatDoorAbs24
import Derived.Test.YtnigjppddilpcaaGreatDoorPk1
namespace Go.Proofs.YtnigjppddilpcaaGreatDoor.Abs
open Go
set_option linter.unusedVariables false
set_option linter.unusedSimpArgs false
theorem fJ {e w:Bool} (h:e=w):(e==w)=true:=by simp [h]
theorem pX {a b:Bool} (h:a=true) (h2:b=true):(a&&b)=true:=by rw [h,h2];rfl
section
variable {P:Program}{all r:List Oper}{d dj j:Nat}{op:Op}{ty:TypeId}{pos:String}{af:Array Edge}{fr:Fr}{σ:St}{K:Fr→St→Prop}{Kq:Fr→Prop}{v:AV}{b c w:Bool}
end
section
variable {P:Program}{d:Option Tmp}{ty:TypeId}{pos:String}{af:Array Edge}{gd:Option (Nat × Bool)}{ev:Operand→AV}{σ:St}{x y z:Operand}{q p:Bool}
theorem aCw (hx:ev x=.c (.bool q)) (hq:q=true) (hy:ev y=.c (.bool p)):Pv P ⟨d,.pick x y z,ty,pos,af,gd⟩ ev σ (.c (.bool p)):=fun K h=>by
 subst hq
 (refine .inl ?_;simp only [eL,hx,hy])
 split
 ·
  rename_i e1 e2;cases e1;exact h
 ·
  exact ⟨fun _=>h,fun e=>by cases e⟩
theorem wL (hx:ev x=.c (.bool q)) (hq:q=false) (hz:ev z=.c (.bool p)):Pv P ⟨d,.pick x y z,ty,pos,af,gd⟩ ev σ (.c (.bool p)):=fun K h=>by
 subst hq
 (refine .inl ?_;simp only [eL,hx,hz])
 split
 ·
  rename_i e1 e2;cases e2;exact h
 ·
  exact ⟨(fun e=>by cases e),fun _=>h⟩
end
def aFj (l:List (Nat × Option Nat)) (i:Nat):Option (Nat × Nat):=match l[i]? with | some (o,some n)=>some (o,n) | _=>none
def aBZ (P:Program) (t:TypeId):Option (List (Nat × Option Nat)):=match aCL P t with | some fs=>some (fs.toList.map fun x=>(x.offset,(P.info? x.type).map (·.size))) | _=>none
theorem nZ {P:Program}{t:TypeId}{l:List (Nat × Option Nat)} (h:aBZ P t=some l) (i:Nat):pI P t i=aFj l i:=by
 unfold aBZ at h
 unfold pI aFj
 split at h
 ·
  rename_i fs hf
  cases h
  simp only [hf,cJ,eF]
  cases hx:fs[i]? with
  | none=>rfl
  | some x=>simp only [gX];cases P.info? x.type <;> rfl
 ·
  cases h
section
variable {P:Program}{V:List Nat}{k0:Nat}{Q:Exit→Fr→St→Prop}{fr:Fr}{σ:St}{K:Fr→St→Prop}
def aQa (k0:Nat) (Q:Exit→Fr→St→Prop):Prop:=∀ fr σ fr' σ',rG k0 fr σ fr' σ'→Q .normal fr' σ'→Q .normal fr σ
def kw (P:Program) (V:List Nat) (k0:Nat) (y:Code) (Q:Exit→Fr→St→Prop):Fr→St→Prop:=fun fr σ=>∃ fr' σ',rG k0 fr σ fr' σ'∧yY P V k0 y Q fr' σ'
theorem aZ {x y:Code} (h:yY P V k0 x (aET (kw P V k0 y Q) Q) fr σ):yY P V k0 (.seq x y) Q fr σ:=by
 refine aDi x (fun e fr σ he=>?_) h
 cases e with
 | normal=>exact he
 | _=>exact he
theorem cZ {y:Code} (h:yY P V k0 y Q fr σ):aET (kw P V k0 y Q) Q .normal fr σ:=⟨fr,σ,rG.refl _ _ _,h⟩
theorem lB {y:Code}{Q':Exit→Fr→St→Prop}:aQa k0 (aET (kw P V k0 y Q) Q'):=fun fr σ fr' σ' hw ⟨fr2,σ2,hw2,h⟩=>⟨fr2,σ2,hw.trans hw2,h⟩
theorem gZ {x:Code}{J:Type} (hQ:aQa k0 Q) (C:J→Prop) (F:J→Fr) (G:J→St) (h:yY P V k0 x (aET (fun fr σ=>∃ j,C j∧rG k0 fr σ (F j) (G j)) Q) fr σ) (h2:∀ j,C j→Q .normal (F j) (G j)):yY P V k0 x Q fr σ :=
 aDi x (fun e fr σ he=>by
  cases e with
  | normal=>obtain ⟨j,h1,h3⟩:=he;exact hQ _ _ _ _ h3 (h2 j h1)
  | _=>exact he) h
theorem iQ {J:Type}{C:J→Prop}{F:J→Fr}{G:J→St} (j:J) (h:C j) (hw:rG k0 fr σ (F j) (G j)):aET (fun fr σ=>∃ j,C j∧rG k0 fr σ (F j) (G j)) Q .normal fr σ:=⟨j,h,hw⟩
end
def aHr (k:IntKind) (n:Int):List PV:=[.int k n]
def fI (s:List UInt8):List PV:=[.str s]
theorem oB {α:Type}{row:α→List PV}:([]:List (List PV))=([]:List α).map row:=rfl
theorem gB {α:Type}{row:α→List PV}{p:List PV}{ps:List (List PV)}{x:α}{xs:List α} (h:row x=p) (t:ps=xs.map row):p :: ps=(x :: xs).map row:=by simp [h,t]
variable {mo:Bool}
theorem St.dem_upd (f:Nat→Bool) (σ:St) (d:Nat):σ.after [] d []=σ.dem fun t=>t / 16==d:=by simp [St.after,St.upd,aIR]
section
variable {P:Program}{all r:List Oper}{d:Nat}{op:Op}{ty:TypeId}{pos:String}{af:Array Edge}{fr:Fr}{σ:St}{K:Fr→St→Prop}{v:AV}
theorem lS (hv:Ov P ⟨some d,op,ty,pos,af,none⟩ fr σ v) (h:mO mo P all r ((d,v) :: fr) σ K):mO mo P all (⟨some d,op,ty,pos,af,none⟩ :: r) fr σ K:=by
 refine vB ?_
 exact hv _ h
theorem bL {gd:Option (Nat × Bool)}{fo:Operand}{args:Array Operand}{ts:Array TypeId}{f:FuncId}{caps as:List AV}{rv:AV} (hf:fr.ev fo=.fn f caps) (hc:cQ P f as [] rv []) (ha:leP (AV.lowL [] (args.toList.map fr.ev++caps)) as)
  (hfr:(fr.dem fun t=>t / 16==d)=fr) (hσ:(σ.dem fun t=>t / 16==d)=σ) (hv:rv.lift [] σ.length d=v) :
  Ov P ⟨some d,.call { callee:=.value fo,args:=args,argTypes:=ts },ty,pos,af,gd⟩ fr σ v:=fun K hk=>by
 unfold aop
 simp only [hf,aHJ]
 refine ⟨d,[],[],as,[],rv,[],.nil,.nil,by simp,aDG ha,by simp [St.sub];exact .nil,hc,?_⟩
 simp only [eT,aIR,hfr,hv,St.dem_upd (fun _=>true),hσ]
 exact hk
end
theorem aTr {α:Type}{P:Program}{all r:List Oper}{d:Nat}{ty t t2:TypeId}{pos:String}{af:Array Edge}{fr:Fr}{σ:St}{K:Fr→St→Prop}{sz:Nat}{row:α→List PV}{xs:List α}{x:Operand} (ht:kF P t=3) (hx:isl (fr.ev x) sz row xs)
  (h:∀ b:Bool,(b=true→xs=[])→mO mo P all r ((d,.c (.bool b)) :: fr) σ K):mO mo P all (⟨some d,.binOp .eql t x (.const (.slice .none 0 0)) t2,ty,pos,af,none⟩ :: r) fr σ K:=by
 refine vB ?_
 have hk:∀ b:Bool,(b=true→xs.map row=[])→mO mo P all r ((d,.c (.bool (b != false))) :: fr) σ K:=fun b hb=>by
  have:=h b (fun e=>by simpa using hb e)
  simpa using this
 have hn:fr.ev (.const (.slice .none 0 0))=.nil:=rfl
 rcases hx with hx | ⟨t0,hx⟩ <;> simp only [aop,aCo,aNt,hx,hn,PV.ls,AV.os] <;> exact ⟨ht,hk⟩
theorem aK3 {n:Int}{x:UInt8} (h:aDD n=some x):iT x=[.int .u8 n]:=by rw [aMl h];rfl
theorem bR {cs bs:List AV}{σ σ':St} (h:cs=bs) (t:leS σ σ'):leS (cs :: σ) (bs :: σ'):=by subst h;exact .cons (AV.leL_refl _) t
section
variable {k0:Nat}{Q:Exit→Fr→St→Prop}{fr:Fr}{σ:St}
theorem zO {S R:Type}{st:dU S R}{F:S→Fr}{G:S→St} (s:S) (h:st=.next s) (hw:rG k0 fr σ (F s) (G s)):aET (fun fr σ=>∃ s',st=.next s'∧rG k0 fr σ (F s') (G s')) Q .normal fr σ:=⟨s,h,hw⟩
end
theorem eW {x v w:AV}{ids:List Nat} (h:x=v) (hl:(v.low ids).le w):(x.low ids).le w:=by rw [h];exact hl
theorem zF {P:Program}{o:Oper}{ev:Operand→AV}{σ:St}{p q:PV} (h:Pv P o ev σ (.c p)) (he:p=q):Pv P o ev σ (.c q):=he ▸ h
def aQH (f:Nat→Bool):Fr→Prop
 | []=>True
 | (_,a) :: r=>AV.dem f a=a∧aQH f r
theorem eN {f:Nat→Bool}:aQH f []:=trivial
theorem aY {f:Nat→Bool}{i:Nat}{a:AV}{r:Fr} (h:AV.dem f a=a) (t:aQH f r):aQH f ((i,a) :: r):=⟨h,t⟩
theorem pP {f:Nat→Bool}{c:Bool}{v:AV} (h:AV.dem f v=v):AV.dem f (gv c v)=gv c v:=by
 cases c
 ·
  rfl
 ·
  exact h
theorem fT {f:Nat→Bool}:∀ {fr:Fr},aQH f fr→Fr.dem f fr=fr
 | [],_=>rfl
 | (i,a) :: r,h=>by simp only [Fr.dem,h.1,fT h.2]
end Go.Proofs.YtnigjppddilpcaaGreatDoor.Abs
namespace Go.Proofs.YtnigjppddilpcaaGreatDoor.Abs
open Go
set_option linter.unusedVariables false
set_option linter.unusedSimpArgs false
section
variable {P:Program}{ops:Array Oper}{r:List PI}{i:Nat}{rl:List Nat}{d dj j:Nat}{op:Op}{ty:TypeId}{pos:String}{af:Array Edge}{fr:Fr}{σ:St}{K:Fr→St→Prop}{v:AV}{b c w:Bool}
theorem aQm {o:Oper} (h:Qv P o fr σ v):AQ P o fr.ev σ v:=by
 obtain ⟨u,h1,h2⟩:=aNC (h (fun x=>x=v) rfl)
 rw [← h2];exact h1
theorem aKy {fr':Fr}{V:List Nat}{Q:Exit→Fr→St→Prop} (hp:prune V fr=fr') (h:Q .normal fr' σ):ad P ops [] fr σ fun fr σ=>hold (Q .normal (prune V fr) σ):=by
 subst hp;exact h
theorem d_q (ho:ops[i]?=some ⟨some d,op,ty,pos,af,none⟩) (hv:Qv P ⟨some d,op,ty,pos,af,none⟩ fr σ v) (h:ad P ops r ((d,v) :: fr) σ K):ad P ops (.q i :: r) fr σ K:=by
 simp only [ad,ho,rN]
 exact ⟨v,aQm hv,h⟩
theorem d_g (ho:ops[i]?=some ⟨some d,op,ty,pos,af,some (j,w)⟩) (hj:aFw ops.toList j=some dj) (hs:fr.get dj=.c (.bool b)) (hv:(b==w)=true→Qv P ⟨some d,op,ty,pos,af,some (j,w)⟩ fr σ v) (h:ad P ops r ((d,gv (b==w) v) :: fr) σ K):ad P ops (.q i :: r) fr σ K:=by
 simp only [ad,ho]
 refine aRM rfl hj hs (fun e=>?_) (fun e=>?_)
 ·
  have e':(b==w)=true:=by simp [e]
  refine ⟨v,aQm (hv e'),?_⟩
  rw [e',gv,bH rfl] at h
  exact h
 ·
  have e':(b==w)=false:=by simpa using e
  rw [e',gv,bE (by simp)] at h
  exact h
theorem d_n {o:Oper} (ho:ops[i]?=some o) (h:mO false P ops.toList [o] fr σ fun fr' σ'=>RC P ops σ' fr' rl∧ad P ops r fr' σ' K) (hg:o.guard=none):ad P ops (.n i rl :: r) fr σ K:=by
 obtain ⟨dst,op,ty,pos,af,guard⟩:=o
 cases hg
 simp only [ad,ho,rN]
 exact h
theorem uK {all:List Oper} (h:K fr σ):mO false P all [] fr σ K:=h
theorem lJ:RC P ops σ fr []:=trivial
theorem pR {q:Nat} (ho:ops[q]?=some ⟨some d,op,ty,pos,af,none⟩) (hd:fr.get d=v) (hv:Qv P ⟨some d,op,ty,pos,af,none⟩ fr σ v) (t:RC P ops σ fr rl):RC P ops σ fr (q :: rl):=by
 refine ⟨⟨_,d,ho,rfl,?_⟩,t⟩
 rw [hd]
 show AQ P _ _ σ v
 rw [aIq]
 exact aQm hv
end
def aRs (acc:List Nat) (o:Oper):Nat:=o.after.toList.foldl (fun m e=>if Region.binds .any e then m ||| (1 <<< e.on) ||| acc.getD e.on 0 else m) 0
def aFy:List Oper→List Nat→List Nat
 | [],acc=>acc
 | o :: r,acc=>aFy r (acc++[aRs acc o])
theorem aIV {acc:List Nat}:∀ (l:List Edge) (m j:Nat),(l.foldl (fun m e=>if Region.binds .any e then m ||| (1 <<< e.on) ||| acc.getD e.on 0 else m) m).testBit j=true→m.testBit j=true∨∃ e∈l,Region.binds .any e=true∧(e.on=j∨(acc.getD e.on 0).testBit j=true)
 | [],m,j,h=>.inl h
 | e :: l,m,j,h=>by
  simp only [List.foldl_cons] at h
  rcases aIV l _ j h with h1 | ⟨e',he',h1⟩
  ·
   cases hb:Region.binds .any e with
   | false=>rw [hb] at h1;simp at h1;exact .inl h1
   | true =>
    rw [hb,bH rfl,Nat.testBit_or,Nat.testBit_or,fO,fO] at h1
    rcases h1 with (h1 | h1) | h1
    ·
     exact .inl h1
    ·
     refine .inr ⟨e,by simp,hb,.inl ?_⟩
     rw [Nat.one_shiftLeft,Nat.testBit_two_pow] at h1
     simpa using h1
    ·
     exact .inr ⟨e,by simp,hb,.inr h1⟩
  ·
   exact .inr ⟨e',jJ _ he',h1⟩
theorem aHh:∀ (l:List Oper) (acc:List Nat) (i:Nat),i<acc.length→(aFy l acc).getD i 0=acc.getD i 0
 | [],acc,i,h=>rfl
 | o :: r,acc,i,h=>by
  simp only [aFy]
  rw [aHh r _ i (by simp;omega)]
  rw [cI,cI,dD h]
theorem aMx:∀ (l:List Oper) (acc:List Nat) (k:Nat) (o:Oper),l[k]?=some o→∃ acc',acc'.length=acc.length+k∧(∀ i,i<acc'.length→acc'.getD i 0=(aFy l acc).getD i 0)∧(aFy l acc).getD (acc.length+k) 0=aRs acc' o
 | [],acc,k,o,h=>by simp at h
 | x :: r,acc,0,o,h=>by
  simp at h;subst h
  refine ⟨acc,rfl,fun i hi=>?_,?_⟩
  ·
   simp only [aFy]
   rw [aHh r _ i (by simp;omega),cI,cI,dD hi]
  ·
   simp only [aFy,tP]
   rw [aHh r _ _ (by simp)]
   simp [cI]
 | x :: r,acc,k+1,o,h=>by
  simp at h
  obtain ⟨acc',h1,h2,h3⟩:=aMx r (acc++[aRs acc x]) k o h
  refine ⟨acc',by rw [h1];simp;omega,h2,?_⟩
  rw [← h3]
  simp only [aFy]
  congr 1
  simp;omega
theorem aI9 {ops:Array Oper} (hord:∀ i,i<ops.size→∃ o,ops[i]?=some o∧∀ e∈o.after,Region.binds .any e=true→e.on<i):∀ (n i j:Nat),i<n→i<ops.size→((aFy ops.toList []).getD i 0).testBit j=true→rF ops n j i=true
 | 0,i,j,h,_,_=>by omega
 | n+1,i,j,h,hi,hb=>by
  obtain ⟨o,ho,hlt⟩:=hord i hi
  obtain ⟨acc',h1,h2,h3⟩:=aMx ops.toList [] i o (by rw [eF];exact ho)
  simp only [lH,kY] at h1 h3
  rw [h3] at hb
  rcases aIV o.after.toList 0 j hb with h4 | ⟨e,he,hbe,h4⟩
  ·
   simp at h4
  ·
   have he':e∈o.after:=by simpa using he
   have hel:=hlt e he' hbe
   simp only [rF,ho]
   refine tE.2 ⟨e,he',?_⟩
   simp only [hbe,dZ,fO,oZ]
   rcases h4 with h4 | h4
   ·
    exact .inl h4
   ·
    rw [h2 e.on (by omega)] at h4
    exact .inr (aI9 hord n e.on j (by omega) (by omega) h4)
abbrev Tab:=List (Option Nat × List Nat)
def aFC (ops:Array Oper):Tab:=ops.toList.map fun o=>(o.dst,o.looksAt ops)
def aII (tab:Tab) (i j:Nat):Bool:=match tab[i]?,tab[j]? with
 | some (d,_),some (dj,lj)=>(match d with | some d=>!lj.contains d&&(i==j||dj != some d) | _=>true)
 | _,_=>false
def aQ2 (tab:Tab) (j i:Nat):Bool:=match tab[j]?,tab[i]? with
 | some (dj,_),some (_,li)=>(match dj with | some d=>li.contains d | _=>false)
 | _,_=>true
def aNH (ms:List Nat) (j i:Nat):Bool:=(ms.getD i 0).testBit j
def okT (tab:Tab) (ms:List Nat):List PI→List Nat→Bool
 | [],_=>true
 | it :: r,done =>
  decide (it.ix<tab.length)&&!done.contains it.ix&&(done.all fun j=>!aQ2 tab j it.ix||aNH ms j it.ix) &&
  (match it with
   | .q i=>(match tab[i]? with | some (some _,_)=>true | _=>false)&&aII tab i i&&(done.all fun j=>aII tab i j)
   | .n i rl=>(done.all fun j=>aII tab i j||aNH ms j i)&&(r.all fun x=>aNH ms i x.ix)&&(done.all fun j=>rl.contains j||aNH ms j i)) &&
  okT tab ms r (it.ix :: done)
def aQ4:Nat→List Oper→Bool
 | _,[]=>true
 | i,o :: r=>(o.after.toList.all fun e=>!Region.binds .any e||Nat.blt e.on i)&&aQ4 (i+1) r
def aRb (ops:Array Oper) (pl:List PI) (tab:Tab) (ms:List Nat):Bool :=
 decide (aFC ops=tab)&&decide (aFy ops.toList []=ms)&&aQ4 0 ops.toList&&okT tab ms pl []&&((List.range tab.length).all fun i=>pl.any fun x=>x.ix==i)
theorem aME:∀ (l:List Oper) (k i:Nat) (o:Oper),aQ4 k l=true→l[i]?=some o→∀ e∈o.after,Region.binds .any e=true→e.on<k+i
 | [],k,i,o,_,h=>by simp at h
 | x :: r,k,0,o,h,ho=>by
  simp at ho;subst ho
  simp only [aQ4,bZ] at h
  intro e he hb
  have:=cR.1 h.1 e (by simpa using he)
  simp only [hb,dA,mK] at this
  exact aG8 this
 | x :: r,k,i+1,o,h,ho=>by
  simp at ho
  simp only [aQ4,bZ] at h
  intro e he hb
  have:=aME r (k+1) i o h.2 ho e he hb
  omega
theorem aGL (ops:Array Oper) (i:Nat):(aFC ops)[i]?=(ops[i]?).map fun o=>(o.dst,o.looksAt ops):=by
 unfold aFC
 rw [cJ,eF]
theorem aK0 {ops:Array Oper}{i j:Nat}:aII (aFC ops) i j=aC6 ops i j:=by
 unfold aII aC6
 rw [aGL,aGL]
 cases ops[i]? <;> cases ops[j]? <;> rfl
theorem aTp {ops:Array Oper}{i j:Nat}:aQ2 (aFC ops) j i=aEG ops j i:=by
 unfold aQ2 aEG
 rw [aGL,aGL]
 cases ops[i]? <;> cases ops[j]? <;> rfl
theorem aGd {α:Type}{l:List α}{p q:α→Bool} (h:∀ x∈l,p x=true→q x=true) (hp:l.all p=true):l.all q=true:=cR.2 fun x hx=>h x hx (cR.1 hp x hx)
theorem aOM {ops:Array Oper}{ms:List Nat} (hw:∀ i j,i<ops.size→aNH ms j i=true→rF ops ops.size j i=true):∀ (pl:List PI) (done:List Nat),okT (aFC ops) ms pl done=true→okL ops pl done=true
 | [],_,_=>rfl
 | it :: r,done,h=>by
  simp only [okT,bZ] at h
  obtain ⟨⟨⟨⟨h1,h2⟩,h3⟩,h4⟩,h5⟩:=h
  have hlt:it.ix<ops.size:=by have:=gR h1;simpa [aFC] using this
  have hi:∀ {j:Nat},aNH ms j it.ix=true→rF ops ops.size j it.ix=true:=fun hb=>hw _ _ hlt hb
  simp only [okL,bZ]
  refine ⟨⟨⟨⟨tU hlt,h2⟩,aGd (fun j _ h=>?_) h3⟩,?_⟩,aOM hw r _ h5⟩
  ·
   rw [aTp,fO] at h
   rw [fO]
   exact h.imp id hi
  ·
   cases it with
   | q i =>
    simp only [bZ] at h4 ⊢
    refine ⟨⟨?_,by rw [← aK0];exact h4.1.2⟩,aGd (fun j _ h=>by rw [← aK0];exact h) h4.2⟩
    have h6:=h4.1.1
    rw [aGL] at h6
    cases ho:ops[i]? with
    | none=>rw [ho] at h6;cases h6
    | some o =>
     rw [ho] at h6
     simp only [gX] at h6
     split at h6
     ·
      rename_i d l he;simp only [eM,oQ] at he;simp [he.1]
     ·
      cases h6
   | n i rl =>
    have hi:∀ {j:Nat},aNH ms j i=true→rF ops ops.size j i=true:=hi
    simp only [bZ] at h4 ⊢
    refine ⟨⟨aGd (fun j _ h=>?_) h4.1.1,aGd (fun x hx h=>?_) h4.1.2⟩,aGd (fun j _ h=>?_) h4.2⟩
    ·
     rw [aK0,fO] at h
     rw [fO]
     exact h.imp id hi
    ·
     by_cases hx2:x.ix<ops.size
     ·
      exact hw _ _ hx2 h
     ·
      exfalso
      have key:∀ (l:List PI) (dn:List Nat),okT (aFC ops) ms l dn=true→∀ y∈l,y.ix<ops.size:=by
       intro l
       induction l with
       | nil=>intro dn _ y hy;cases hy
       | cons z l ihl =>
        intro dn hz y hy
        simp only [okT,bZ] at hz
        rcases fW.1 hy with rfl | hy
        ·
         have:=gR hz.1.1.1.1;simpa [aFC] using this
        ·
         exact ihl _ hz.2 y hy
      exact hx2 (key r _ h5 x hx)
    ·
     rw [fO] at h ⊢
     exact h.imp id hi
theorem aRc {ops:Array Oper}{pl:List PI}{tab:Tab}{ms:List Nat} (h:aRb ops pl tab ms=true):aHi ops pl=true:=by
 simp only [aRb,bZ] at h
 obtain ⟨⟨⟨⟨h1,h2⟩,h3⟩,h4⟩,h5⟩:=h
 have h1:=gR h1
 have h2:=gR h2
 subst h1 h2
 have hord:∀ i,i<ops.size→∃ o,ops[i]?=some o∧∀ e∈o.after,Region.binds .any e=true→e.on<i:=fun i hi=>by
  refine ⟨_,fQ hi,fun e he hb=>?_⟩
  have:=aME ops.toList 0 i _ h3 (by rw [eF];exact fQ hi) e he hb
  omega
 simp only [aHi,bZ]
 refine ⟨⟨aOM (fun i j hi hb=>aI9 hord ops.size i j hi hi hb) pl [] h4,by simpa [aFC] using h5⟩,cR.2 fun i hi=>?_⟩
 obtain ⟨o,ho,hlt⟩:=hord i (fB.1 hi)
 rw [ho]
 refine Array.all_eq_true'.2 fun e he=>?_
 cases hb:Region.binds .any e with
 | false=>rfl
 | true=>simp [hlt e he hb]
theorem kV {P:Program}{V:List Nat}{k0:Nat}{Q:Exit→Fr→St→Prop}{fr:Fr}{σ:St} (pl:List PI) (tab:Tab) (ms:List Nat) {id:Nat}{l:List Oper} (hB:aRb l.toArray pl tab ms=true) (h:ad P l.toArray pl fr σ fun fr σ=>hold (Q .normal (prune V fr) σ)):yY P V k0 (.region id l.toArray true) Q fr σ :=
 aTO pl (aRc hB) h
def aTL (P:Program) (t:TypeId):Option (TypeId × Nat):=match P.underlying t with | some (.slice e)=>some (e,P.cellsOf e) | _=>none
def sQ (x:Int):Prop:=-9223372036854775808≤x∧x≤9223372036854775807
def okW (k:IntKind) (x:Int):Prop:=(Lit.int k x).wf=true
def okS (s:List UInt8):Prop:=s.length≤140737488351232
def aAc {α:Type} (k:Nat) (ok:α→Prop) (xs:List α):Prop:=xs.length≤9223372036854775807∧xs.length*k≤140737488351232∧∀ x∈xs,ok x
section
variable {P:Program}{n:Nat}{t e:TypeId}{ps:List PV}
theorem aTH {k:IntKind} (h:aC2 P t=some k) (hs:uH P n t ps):∃ x,ps=[.int k x]∧okW k x:=by
 cases n with
 | zero=>exact hs.elim
 | succ n =>
  have hu:=aD1 h
  simp only [uH,hu] at hs
  exact hs
theorem aUn (h:aC2 P t=some .u8) (hs:uH P n t ps):∃ x:UInt8,ps=iT x∧True:=by
 obtain ⟨x,h1,h2⟩:=aTH h hs
 unfold okW Lit.wf at h2
 simp only [bZ,dT] at h2
 have h4:(0:Int)≤x:=h2.1
 have h5:x≤(255:Int):=h2.2
 have h3:0≤x∧x<256:=⟨h4,by omega⟩
 refine ⟨UInt8.ofNat x.toNat,?_,trivial⟩
 rw [h1]
 unfold iT
 have:((UInt8.ofNat x.toNat).toNat:Int)=x:=by simp;omega
 rw [this]
theorem aOL {α:Type}{row:α→List PV}{ok:α→Prop}:∀ (xs:List (List PV)),(∀ x∈xs,∃ a,x=row a∧ok a)→∃ as:List α,xs=as.map row∧∀ a∈as,ok a
 | [],_=>⟨[],rfl,by simp⟩
 | x :: xs,h=>by
  obtain ⟨a,rfl,ha⟩:=h x (by simp)
  obtain ⟨as,rfl,has⟩:=aOL xs (fun y hy=>h y (by simp [hy]))
  exact ⟨a :: as,rfl,by simpa using ⟨ha,has⟩⟩
theorem aUm {α:Type}{sz k:Nat}{row:α→List PV}{ok:α→Prop} (h:aTL P t=some (e,sz)) (hk:P.bytesOf e=k) (hs:uH P n t ps) (conv:∀ m,m<n→∀ qs,uH P m e qs→∃ a:α,qs=row a∧ok a):∃ xs:List α,ps=[PV.ls sz row xs]∧aAc k ok xs:=by
 cases n with
 | zero=>exact hs.elim
 | succ n =>
  unfold aTL at h
  cases hu:P.underlying t with
  | none=>simp [hu] at h
  | some d =>
   cases d <;> simp [hu] at h
   rename_i e'
   obtain ⟨rfl,rfl⟩:=h
   simp only [uH,hu] at hs
   obtain ⟨xs,rfl,hx,hl,hl2⟩:=hs
   rw [hk] at hl2
   obtain ⟨as,rfl,has⟩:=aOL (row:=row) (ok:=ok) xs (fun x hxm=>conv n (by omega) x (hx x hxm))
   exact ⟨as,rfl,by simpa using hl,by simpa using hl2,has⟩
end
def AV.ar {α:Type} (row:α→List PV) (xs:List α):AV:=.agg (AV.cs ((xs.map row).flatten))
theorem aRY (f:Nat→Bool) (l:List PV):AV.demL f (AV.cs l)=AV.cs l:=by rw [AV.demL_eq];simp [AV.cs,AV.dem]
theorem pO {α:Type}{row:α→List PV}{xs:List α}{f:Nat→Bool}:(AV.ar row xs).dem f=AV.ar row xs:=by simp only [AV.ar,AV.dem,aRY]
section
variable {P:Program}{d:Option Tmp}{ty:TypeId}{pos:String}{af:Array Edge}{gd:Option (Nat × Bool)}{ev:Operand→AV}{σ:St}{x y z:Operand}{t t2:TypeId}{k k':IntKind}{a b:Int}{v:AV}
end
variable {mo:Bool}
def AV.ms {α:Type} (t sz:Nat) (row:α→List PV) (xs:List α):AV:=.mrow t sz (xs.map row)
section
variable {P:Program}{d:Option Tmp}{ty:TypeId}{pos:String}{af:Array Edge}{gd:Option (Nat × Bool)}{ev:Operand→AV}{σ:St}{x y z:Operand}{t t2:TypeId}{k k':IntKind}{v:AV}
end
section
variable {P:Program}{all r:List Oper}{d:Nat}{ty:TypeId}{pos:String}{af:Array Edge}{fr:Fr}{σ:St}{K:Fr→St→Prop}{v:AV}
end
end Go.Proofs.YtnigjppddilpcaaGreatDoor.Abs
namespace Go.Proofs.YtnigjppddilpcaaGreatDoor.Abs
open Go
set_option linter.unusedVariables false
set_option linter.unusedSimpArgs false
variable {mo:Bool}
theorem r {α:Sort _}{a:α}:a=a:=rfl
theorem sy {α:Type}{a b:α} (h:some a=some b):b=a:=(hS h).symm
theorem lr {a:AV}:a.le a:=AV.le_refl a
def aQS:Fr→List Nat
 | []=>[]
 | (i,_) :: r=>i :: aQS r
def aP0 (V:List Nat):List Nat→Bool
 | []=>true
 | i :: r=>V.contains i&&aP0 V r
theorem aM5 {V:List Nat}:∀ {l:List Nat},aP0 V l=true→∀ i∈l,i∈V
 | [],_,i,hi=>by cases hi
 | j :: l,h,i,hi=>by
  simp only [aP0,bZ,jU] at h
  rcases fW.1 hi with rfl | hi
  ·
   exact h.1
  ·
   exact aM5 h.2 i hi
theorem aKK {V l:List Nat}{fr:Fr} (h:aP0 V l=true) (d:Nat):((prune V fr).get d).le ((prune l fr).get d):=by
 rw [aHj,aHj]
 by_cases hd:d∈l
 ·
  rw [bH hd,bH (aM5 h d hd)];exact AV.le_refl _
 ·
  rw [bE hd];exact AV.le_any _
section
variable {P:Program}{V:List Nat}{k0:Nat}{Q:Exit→Fr→St→Prop}{fr:Fr}{σ:St}
theorem aG {all:List Oper}{y:Code}{fr':Fr} (hk:aP0 V (aQS fr')=true) (hp:prune (aQS fr') fr=fr') (h:yY P V k0 y Q fr' σ):mO mo P all [] fr σ fun fr σ=>hold (aET (kw P V k0 y Q) Q .normal (prune V fr) σ):=by
 refine ⟨fr',σ,rG.slots fun d=>?_,h⟩
 have:=aKK (fr:=fr) hk d
 rw [hp] at this
 exact this
theorem aAq {ops:Array Oper}{y:Code}{fr':Fr} (hk:aP0 V (aQS fr')=true) (hp:prune (aQS fr') fr=fr') (h:yY P V k0 y Q fr' σ):ad P ops [] fr σ fun fr σ=>hold (aET (kw P V k0 y Q) Q .normal (prune V fr) σ):=by
 refine ⟨fr',σ,rG.slots fun d=>?_,h⟩
 have:=aKK (fr:=fr) hk d
 rw [hp] at this
 exact this
theorem aH {id:Nat}{l:List Oper}{y:Code} (h:mO true P l l fr σ fun fr σ=>hold (aET (kw P V k0 y Q) Q .normal (prune V fr) σ)):yY P V k0 (.seq (.region id l.toArray false) y) Q fr σ:=aZ (bB h)
theorem cG {α:Type}{c:Operand}{x y:Code}{b:Bool}{X Y:Option α}{r:α} (he:cond b X Y=some r) (h:fr.ev c=.c (.bool b)) (h1:b=true→X=some r→yY P V k0 x Q fr σ) (h2:b=false→Y=some r→yY P V k0 y Q fr σ):yY P V k0 (.cond c x y) Q fr σ :=
 aLI b h (fun hb=>h1 hb (aQv hb he)) (fun hb=>h2 hb (aQu hb he))
end
theorem aN7 {α:Type}{G:Prop}{b:Bool}{X Y:Option α}{r:α} (he:cond b X Y=some r) (h1:b=true→X=some r→G) (h2:b=false→Y=some r→G):G:=by
 cases hb:b
 ·
  exact h2 hb (aQu hb he)
 ·
  exact h1 hb (aQv hb he)
section
variable {P:Program}{all r:List Oper}{ops:Array Oper}{rp:List PI}{d dj j i:Nat}{op:Op}{ty:TypeId}{pos:String}{af:Array Edge}{fr:Fr}{σ:St}{K:Fr→St→Prop}{v:AV}{b c w:Bool}{x:Operand}
theorem mV (hx:fr.ev x=v) (h:mO mo P all r ((d,v) :: fr) σ K):mO mo P all (⟨some d,.move x,ty,pos,af,none⟩ :: r) fr σ K:=aR rfl (bN hx) h
theorem sV (hx:fr.ev x=v) (h:mO mo P all r ((d,v) :: fr) σ K):mO mo P all (⟨some d,.assign x,ty,pos,af,none⟩ :: r) fr σ K:=aR rfl (aGw hx) h
theorem mI {k:IntKind}{n:Int} (hx:fr.ev x=.c (.int k n)) (h:mO mo P all r ((d,.c (.int k n)) :: fr) σ K):mO mo P all (⟨some d,.move x,ty,pos,af,none⟩ :: r) fr σ K:=mV hx h
theorem sI {k:IntKind}{n:Int} (hx:fr.ev x=.c (.int k n)) (h:mO mo P all r ((d,.c (.int k n)) :: fr) σ K):mO mo P all (⟨some d,.assign x,ty,pos,af,none⟩ :: r) fr σ K:=sV hx h
theorem mB {n:Bool} (hx:fr.ev x=.c (.bool n)) (h:mO mo P all r ((d,.c (.bool n)) :: fr) σ K):mO mo P all (⟨some d,.move x,ty,pos,af,none⟩ :: r) fr σ K:=mV hx h
theorem sB {n:Bool} (hx:fr.ev x=.c (.bool n)) (h:mO mo P all r ((d,.c (.bool n)) :: fr) σ K):mO mo P all (⟨some d,.assign x,ty,pos,af,none⟩ :: r) fr σ K:=sV hx h
theorem mS {s:List UInt8} (hx:fr.ev x=.c (.str s)) (h:mO mo P all r ((d,.c (.str s)) :: fr) σ K):mO mo P all (⟨some d,.move x,ty,pos,af,none⟩ :: r) fr σ K:=mV hx h
theorem sS {s:List UInt8} (hx:fr.ev x=.c (.str s)) (h:mO mo P all r ((d,.c (.str s)) :: fr) σ K):mO mo P all (⟨some d,.assign x,ty,pos,af,none⟩ :: r) fr σ K:=sV hx h
theorem mL {α:Type}{sz:Nat}{row:α→List PV}{xs:List α} (hx:fr.ev x=.c (PV.ls sz row xs)) (h:mO mo P all r ((d,.c (PV.ls sz row xs)) :: fr) σ K):mO mo P all (⟨some d,.move x,ty,pos,af,none⟩ :: r) fr σ K:=mV hx h
theorem sL {α:Type}{sz:Nat}{row:α→List PV}{xs:List α} (hx:fr.ev x=.c (PV.ls sz row xs)) (h:mO mo P all r ((d,.c (PV.ls sz row xs)) :: fr) σ K):mO mo P all (⟨some d,.assign x,ty,pos,af,none⟩ :: r) fr σ K:=sV hx h
theorem og (hp:aB4 ⟨some d,op,ty,pos,af,some (j,w)⟩=true) (hj:aFw all j=some dj) (hs:fr.get dj=.c (.bool b)) (hv:(b==w)=true→Pv P ⟨some d,op,ty,pos,af,some (j,w)⟩ fr.ev σ v) (h:mO mo P all r ((d,gv (b==w) v) :: fr) σ K):mO mo P all (⟨some d,op,ty,pos,af,some (j,w)⟩ :: r) fr σ K :=
 sX hj hs (fun hc=>fS hp (hv hc)) h
theorem dq (ho:ops[i]?=some ⟨some d,op,ty,pos,af,none⟩) (hp:aB4 ⟨some d,op,ty,pos,af,none⟩=true) (hv:Pv P ⟨some d,op,ty,pos,af,none⟩ fr.ev σ v) (h:ad P ops rp ((d,v) :: fr) σ K):ad P ops (.q i :: rp) fr σ K:=d_q ho (kU hp hv) h
end
open RowKit in
theorem aFK {P:Program}{f:FuncId}{args:List AV}{r:AV} (hc:aDk P f=true)
  (h:∀ (g:G) (w:World) (vs:Array Value),iE g w vs args→(∀ b o,g.I b o→b<w.heap.size)→Glo g.I w→Calls P f vs w fun e w'=>∃ v,e=.returned v∧Below w.heap.size w w'∧∀ g',oP g' w' v r):cQ P f args [] r []:=by
 refine ⟨hc,fun w I β τ vs hI hnd hlt hβI hτ hτi hlen hst hargs hglo=>?_⟩
 have hβ:β=[]:=eS hlen
 subst hβ
 refine (h ⟨I,[],τ⟩ w vs hargs hI hglo).mono fun e w'=>?_
 rintro ⟨v,he,hb,hv⟩
 refine ⟨v,⟨I,[],fun _=>none⟩,he,⟨hb.os,hb.tape,hb.output,hb.size,fun b hb' _ _=>hb.block b hb',fun _ _ h=>h,fun _ _ h _ _=>h,fun b o h=>gW (hI b o h) hb.size,rfl,by simp,List.nodup_nil,rfl,by simp,by simp,
  fun t b h=>(by cases h),fun t t' b h=>(by cases h),fun id cs b hs=>(by simp at hs),fun b o h=>(by simp [World.cell?,hb.block b (hI b o h)]),hglo⟩,hv _⟩
theorem aOg {I:Nat→Nat→Prop}{w:World}{v:Value}{s:List UInt8} (h:RV I w v (.str s)):v=.string ⟨s.toArray⟩:=by cases h;rfl
theorem aRh {g:G}{w:World}{v:Value}{p:PV} (h:oP g w v (.c p)):RV g.I w v p:=by cases h;assumption
theorem rc1 {g:G}{w:World}{vs:Array Value}{a:AV} (h:iE g w vs [a]):∃ v,vs=#[v]∧oP g w v a:=by
 obtain ⟨h1,h2⟩:=h
 obtain ⟨l⟩:=vs
 match l,h1 with
 | [v],_=>exact ⟨v,rfl,h2 0 v a rfl rfl⟩
theorem rc2 {g:G}{w:World}{vs:Array Value}{a b:AV} (h:iE g w vs [a,b]):∃ u v,vs=#[u,v]∧oP g w u a∧oP g w v b:=by
 obtain ⟨h1,h2⟩:=h
 obtain ⟨l⟩:=vs
 match l,h1 with
 | [u,v],_=>exact ⟨u,v,rfl,h2 0 u a rfl rfl,h2 1 v b rfl rfl⟩
theorem aTA {g:G}{w:World}{vs:Array Value}{s:List UInt8} (h:iE g w vs [.c (.str s)]):vs=#[.string ⟨s.toArray⟩]:=by
 obtain ⟨v,rfl,hv⟩:=rc1 h
 rw [aOg (aRh hv)]
theorem aOP {g:G}{w:World}{vs:Array Value}{s t:List UInt8} (h:iE g w vs [.c (.str s),.c (.str t)]):vs=#[.string ⟨s.toArray⟩,.string ⟨t.toArray⟩]:=by
 obtain ⟨u,v,rfl,hu,hv⟩:=rc2 h
 rw [aOg (aRh hu),aOg (aRh hv)]
theorem aQQ {α:Type}{p:Prop} [Decidable p] {a b:α} (h:(if p then some a else none)=some b):p∧b=a:=by
 by_cases hp:p
 ·
  rw [bH hp] at h;exact ⟨hp,(hS h).symm⟩
 ·
  rw [bE hp] at h;cases h
theorem aLc {P:Program}{I:Nat→Nat→Prop}{w:World} (h:Glo I w) {k:Nat}{p:Array Value→Prop} (hm:(k,p)∈aQL) {n:String} (hn:P.globalNamed n=some k):∃ cs,w.var? P n=some cs∧p cs:=by
 obtain ⟨_,cs,e,l,h2,_,h4⟩:=h _ hm
 exact ⟨cs,by simp [World.var?,hn,h2],h4⟩

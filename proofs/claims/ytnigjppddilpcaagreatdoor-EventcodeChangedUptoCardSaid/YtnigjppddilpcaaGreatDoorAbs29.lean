/- The printed walks' steps: guards whose way is known, parts that may end in any way, types' places. The printed walks' steps: calls that are handed no variable, cells of bytes. The printed walks' steps in regions whose order is drawn. From a law's data to typed values. The printed walks' steps: arrays, and equality of structs. The printed walks' steps: rows that may be stored into, arrays told by slices. The printed walks' steps, in fewer signs. -/
import Derived.Test.YtnigjppddilpcaaGreatDoorAbs24
import Derived.Test.YtnigjppddilpcaaGreatDoorPk1
namespace Go.Proofs.YtnigjppddilpcaaGreatDoor.Abs
open Go
set_option linter.unusedVariables false
set_option linter.unusedSimpArgs false
theorem fG {e w:Bool} (h:e=w):(e==w)=true:=by simp [h]
theorem qB {a b:Bool} (h:a=true) (h2:b=true):(a&&b)=true:=by rw [h,h2];rfl
section
variable {P:Program}{all r:List Oper}{d dj j:Nat}{op:Op}{ty:TypeId}{pos:String}{af:Array Edge}{fr:Fr}{σ:St}{K:Fr→St→Prop}{Kq:Fr→Prop}{v:AV}{b c w:Bool}
end
section
variable {P:Program}{d:Option Tmp}{ty:TypeId}{pos:String}{af:Array Edge}{gd:Option (Nat × Bool)}{ev:Operand→AV}{σ:St}{x y z:Operand}{q p:Bool}
theorem aJU (hx:ev x=.c (.bool q)) (hq:q=true) (hy:ev y=.c (.bool p)):Pv P ⟨d,.pick x y z,ty,pos,af,gd⟩ ev σ (.c (.bool p)):=fun K h=>by
 subst hq
 (refine .inl ?_;simp only [bN,hx,hy])
 split
 ·
  rename_i e1 e2;cases e1;exact h
 ·
  exact ⟨fun _=>h,fun e=>by cases e⟩
theorem aAa (hx:ev x=.c (.bool q)) (hq:q=false) (hz:ev z=.c (.bool p)):Pv P ⟨d,.pick x y z,ty,pos,af,gd⟩ ev σ (.c (.bool p)):=fun K h=>by
 subst hq
 (refine .inl ?_;simp only [bN,hx,hz])
 split
 ·
  rename_i e1 e2;cases e2;exact h
 ·
  exact ⟨(fun e=>by cases e),fun _=>h⟩
end
def aDf (l:List (Nat × Option Nat)) (i:Nat):Option (Nat × Nat):=match l[i]? with | some (o,some n)=>some (o,n) | _=>none
def yA (P:Program) (t:TypeId):Option (List (Nat × Option Nat)):=match sC P t with | some fs=>some (fs.toList.map fun x=>(x.offset,(P.info? x.type).map (·.size))) | _=>none
theorem kS {P:Program}{t:TypeId}{l:List (Nat × Option Nat)} (h:yA P t=some l) (i:Nat):jO P t i=aDf l i:=by
 unfold yA at h
 unfold jO aDf
 split at h
 ·
  rename_i fs hf
  cases h
  simp only [hf,List.getElem?_map,Array.getElem?_toList]
  cases hx:fs[i]? with
  | none=>rfl
  | some x=>simp only [Option.map_some];cases P.info? x.type <;> rfl
 ·
  cases h
section
variable {P:Program}{V:List Nat}{k0:Nat}{Q:Exit→Fr→St→Prop}{fr:Fr}{σ:St}{K:Fr→St→Prop}
def aBS (k0:Nat) (Q:Exit→Fr→St→Prop):Prop:=∀ fr σ fr' σ',hU k0 fr σ fr' σ'→Q .normal fr' σ'→Q .normal fr σ
def kw (P:Program) (V:List Nat) (k0:Nat) (y:Code) (Q:Exit→Fr→St→Prop):Fr→St→Prop:=fun fr σ=>∃ fr' σ',hU k0 fr σ fr' σ'∧nD P V k0 y Q fr' σ'
theorem aN {x y:Code} (h:nD P V k0 x (vN (kw P V k0 y Q) Q) fr σ):nD P V k0 (.seq x y) Q fr σ:=by
 refine tJ x (fun e fr σ he=>?_) h
 cases e with
 | normal=>exact he
 | _=>exact he
theorem bT {y:Code} (h:nD P V k0 y Q fr σ):vN (kw P V k0 y Q) Q .normal fr σ:=⟨fr,σ,hU.refl _ _ _,h⟩
theorem iV {y:Code}{Q':Exit→Fr→St→Prop}:aBS k0 (vN (kw P V k0 y Q) Q'):=fun fr σ fr' σ' hw ⟨fr2,σ2,hw2,h⟩=>⟨fr2,σ2,hw.trans hw2,h⟩
theorem aNO {J:Type}{C:J→Prop}{F:J→Fr}{G:J→St}:aBS k0 (vN (fun fr σ=>∃ j,C j∧hU k0 fr σ (F j) (G j)) Q):=fun fr σ fr' σ' hw ⟨j,h1,h2⟩=>⟨j,h1,hw.trans h2⟩
theorem aM1 {id:Nat} (h:aBS k0 Q):aBS k0 (aFj id Q):=fun fr σ fr' σ' hw h'=>h fr σ fr' σ' hw h'
theorem fI {x:Code}{J:Type} (hQ:aBS k0 Q) (C:J→Prop) (F:J→Fr) (G:J→St) (h:nD P V k0 x (vN (fun fr σ=>∃ j,C j∧hU k0 fr σ (F j) (G j)) Q) fr σ) (h2:∀ j,C j→Q .normal (F j) (G j)):nD P V k0 x Q fr σ :=
 tJ x (fun e fr σ he=>by
  cases e with
  | normal=>obtain ⟨j,h1,h3⟩:=he;exact hQ _ _ _ _ h3 (h2 j h1)
  | _=>exact he) h
theorem lF {J:Type}{C:J→Prop}{F:J→Fr}{G:J→St} (j:J) (h:C j) (hw:hU k0 fr σ (F j) (G j)):vN (fun fr σ=>∃ j,C j∧hU k0 fr σ (F j) (G j)) Q .normal fr σ:=⟨j,h,hw⟩
end
def aLa (k:IntKind) (n:Int):List PV:=[.int k n]
def fD (s:List UInt8):List PV:=[.str s]
theorem mD {α:Type}{row:α→List PV}:([]:List (List PV))=([]:List α).map row:=rfl
theorem fR {α:Type}{row:α→List PV}{p:List PV}{ps:List (List PV)}{x:α}{xs:List α} (h:row x=p) (t:ps=xs.map row):p :: ps=(x :: xs).map row:=by simp [h,t]
end Go.Proofs.YtnigjppddilpcaaGreatDoor.Abs
namespace Go.Proofs.YtnigjppddilpcaaGreatDoor.Abs
open Go
set_option linter.unusedVariables false
set_option linter.unusedSimpArgs false
variable {mo:Bool}
theorem St.dem_upd (f:Nat→Bool) (σ:St) (d:Nat):σ.after [] d []=σ.dem fun t=>t / 16==d:=by simp [St.after,St.upd,zP]
section
variable {P:Program}{all r:List Oper}{d:Nat}{op:Op}{ty:TypeId}{pos:String}{af:Array Edge}{fr:Fr}{σ:St}{K:Fr→St→Prop}{v:AV}
theorem jZ (hv:Ov P ⟨some d,op,ty,pos,af,none⟩ fr σ v) (h:eZ mo P all r ((d,v) :: fr) σ K):eZ mo P all (⟨some d,op,ty,pos,af,none⟩ :: r) fr σ K:=by
 refine jF ?_
 exact hv _ h
theorem bG {gd:Option (Nat × Bool)}{fo:Operand}{args:Array Operand}{ts:Array TypeId}{f:FuncId}{caps as:List AV}{rv:AV} (hf:fr.ev fo=.fn f caps) (hc:bR P f as [] rv []) (ha:leP (AV.lowL [] (args.toList.map fr.ev++caps)) as)
  (hfr:(fr.dem fun t=>t / 16==d)=fr) (hσ:(σ.dem fun t=>t / 16==d)=σ) (hv:rv.lift [] σ.length d=v) :
  Ov P ⟨some d,.call { callee:=.value fo,args:=args,argTypes:=ts },ty,pos,af,gd⟩ fr σ v:=fun K hk=>by
 unfold aop
 simp only [hf,aA2]
 refine ⟨d,[],[],as,[],rv,[],.nil,.nil,by simp,tD ha,by simp [St.sub];exact .nil,hc,?_⟩
 simp only [Option.getD_some,zP,hfr,hv,St.dem_upd (fun _=>true),hσ]
 exact hk
end
theorem aMn {α:Type}{P:Program}{all r:List Oper}{d:Nat}{ty t t2:TypeId}{pos:String}{af:Array Edge}{fr:Fr}{σ:St}{K:Fr→St→Prop}{sz:Nat}{row:α→List PV}{xs:List α}{x:Operand} (ht:eR P t=3) (hx:isl (fr.ev x) sz row xs)
  (h:∀ b:Bool,(b=true→xs=[])→eZ mo P all r ((d,.c (.bool b)) :: fr) σ K):eZ mo P all (⟨some d,.binOp .eql t x (.const (.slice .none 0 0)) t2,ty,pos,af,none⟩ :: r) fr σ K:=by
 refine jF ?_
 have hk:∀ b:Bool,(b=true→xs.map row=[])→eZ mo P all r ((d,.c (.bool (b != false))) :: fr) σ K:=fun b hb=>by
  have:=h b (fun e=>by simpa using hb e)
  simpa using this
 have hn:fr.ev (.const (.slice .none 0 0))=.nil:=rfl
 rcases hx with hx | ⟨t0,hx⟩ <;> simp only [aop,rM,aGs,hx,hn,PV.ls,AV.os] <;> exact ⟨ht,hk⟩
theorem aEl {n:Int}{x:UInt8} (h:jP n=some x):eD x=[.int .u8 n]:=by rw [aA9 h];rfl
theorem cK {cs bs:List AV}{σ σ':St} (h:cs=bs) (t:leS σ σ'):leS (cs :: σ) (bs :: σ'):=by subst h;exact .cons (AV.leL_refl _) t
section
variable {k0:Nat}{Q:Exit→Fr→St→Prop}{fr:Fr}{σ:St}
theorem xG {S R:Type}{st:cD S R}{F:S→Fr}{G:S→St} (s:S) (h:st=.next s) (hw:hU k0 fr σ (F s) (G s)):vN (fun fr σ=>∃ s',st=.next s'∧hU k0 fr σ (F s') (G s')) Q .normal fr σ:=⟨s,h,hw⟩
end
theorem fK {x v w:AV}{ids:List Nat} (h:x=v) (hl:(v.low ids).le w):(x.low ids).le w:=by rw [h];exact hl
theorem nH {P:Program}{o:Oper}{ev:Operand→AV}{σ:St}{p q:PV} (h:Pv P o ev σ (.c p)) (he:p=q):Pv P o ev σ (.c q):=he ▸ h
def aJx (f:Nat→Bool):Fr→Prop
 | []=>True
 | (_,a) :: r=>AV.dem f a=a∧aJx f r
theorem eK {f:Nat→Bool}:aJx f []:=trivial
theorem aY {f:Nat→Bool}{i:Nat}{a:AV}{r:Fr} (h:AV.dem f a=a) (t:aJx f r):aJx f ((i,a) :: r):=⟨h,t⟩
theorem rI {f:Nat→Bool}{c:Bool}{v:AV} (h:AV.dem f v=v):AV.dem f (gv c v)=gv c v:=by
 cases c
 ·
  rfl
 ·
  exact h
theorem fT {f:Nat→Bool}:∀ {fr:Fr},aJx f fr→Fr.dem f fr=fr
 | [],_=>rfl
 | (i,a) :: r,h=>by simp only [Fr.dem,h.1,fT h.2]
end Go.Proofs.YtnigjppddilpcaaGreatDoor.Abs
namespace Go.Proofs.YtnigjppddilpcaaGreatDoor.Abs
open Go
set_option linter.unusedVariables false
set_option linter.unusedSimpArgs false
section
variable {P:Program}{ops:Array Oper}{r:List PI}{i:Nat}{rl:List Nat}{d dj j:Nat}{op:Op}{ty:TypeId}{pos:String}{af:Array Edge}{fr:Fr}{σ:St}{K:Fr→St→Prop}{v:AV}{b c w:Bool}
theorem aJd {o:Oper} (h:Qv P o fr σ v):AQ P o fr.ev σ v:=by
 obtain ⟨u,h1,h2⟩:=aGA (h (fun x=>x=v) rfl)
 rw [← h2];exact h1
theorem aM2 {fr':Fr}{V:List Nat}{Q:Exit→Fr→St→Prop} (hp:prune V fr=fr') (h:Q .normal fr' σ):ad P ops [] fr σ fun fr σ=>hold (Q .normal (prune V fr) σ):=by
 subst hp;exact h
theorem d_q (ho:ops[i]?=some ⟨some d,op,ty,pos,af,none⟩) (hv:Qv P ⟨some d,op,ty,pos,af,none⟩ fr σ v) (h:ad P ops r ((d,v) :: fr) σ K):ad P ops (.q i :: r) fr σ K:=by
 simp only [ad,ho,iG]
 exact ⟨v,aJd hv,h⟩
theorem d_g (ho:ops[i]?=some ⟨some d,op,ty,pos,af,some (j,w)⟩) (hj:xX ops.toList j=some dj) (hs:fr.get dj=.c (.bool b)) (hv:(b==w)=true→Qv P ⟨some d,op,ty,pos,af,some (j,w)⟩ fr σ v) (h:ad P ops r ((d,gv (b==w) v) :: fr) σ K):ad P ops (.q i :: r) fr σ K:=by
 simp only [ad,ho]
 refine aKy rfl hj hs (fun e=>?_) (fun e=>?_)
 ·
  have e':(b==w)=true:=by simp [e]
  refine ⟨v,aJd (hv e'),?_⟩
  rw [e',gv,if_pos rfl] at h
  exact h
 ·
  have e':(b==w)=false:=by simpa using e
  rw [e',gv,if_neg (by simp)] at h
  exact h
theorem d_n {o:Oper} (ho:ops[i]?=some o) (h:eZ false P ops.toList [o] fr σ fun fr' σ'=>RC P ops σ' fr' rl∧ad P ops r fr' σ' K) (hg:o.guard=none):ad P ops (.n i rl :: r) fr σ K:=by
 obtain ⟨dst,op,ty,pos,af,guard⟩:=o
 cases hg
 simp only [ad,ho,iG]
 exact h
theorem aCn {all:List Oper} (h:K fr σ):eZ false P all [] fr σ K:=h
theorem rT:RC P ops σ fr []:=trivial
theorem aK9 {q:Nat} (ho:ops[q]?=some ⟨some d,op,ty,pos,af,none⟩) (hd:fr.get d=v) (hv:Qv P ⟨some d,op,ty,pos,af,none⟩ fr σ v) (t:RC P ops σ fr rl):RC P ops σ fr (q :: rl):=by
 refine ⟨⟨_,d,ho,rfl,?_⟩,t⟩
 rw [hd]
 show AQ P _ _ σ v
 rw [aBC]
 exact aJd hv
end
def aKg (acc:List Nat) (o:Oper):Nat:=o.after.toList.foldl (fun m e=>if Region.binds .any e then m ||| (1 <<< e.on) ||| acc.getD e.on 0 else m) 0
def xY:List Oper→List Nat→List Nat
 | [],acc=>acc
 | o :: r,acc=>xY r (acc++[aKg acc o])
theorem aCa {acc:List Nat}:∀ (l:List Edge) (m j:Nat),(l.foldl (fun m e=>if Region.binds .any e then m ||| (1 <<< e.on) ||| acc.getD e.on 0 else m) m).testBit j=true→m.testBit j=true∨∃ e∈l,Region.binds .any e=true∧(e.on=j∨(acc.getD e.on 0).testBit j=true)
 | [],m,j,h=>.inl h
 | e :: l,m,j,h=>by
  simp only [List.foldl_cons] at h
  rcases aCa l _ j h with h1 | ⟨e',he',h1⟩
  ·
   cases hb:Region.binds .any e with
   | false=>rw [hb] at h1;simp at h1;exact .inl h1
   | true =>
    rw [hb,if_pos rfl,Nat.testBit_or,Nat.testBit_or,Bool.or_eq_true,Bool.or_eq_true] at h1
    rcases h1 with (h1 | h1) | h1
    ·
     exact .inl h1
    ·
     refine .inr ⟨e,by simp,hb,.inl ?_⟩
     rw [Nat.one_shiftLeft,Nat.testBit_two_pow] at h1
     simpa using h1
    ·
     exact .inr ⟨e,by simp,hb,.inr h1⟩
  ·
   exact .inr ⟨e',List.mem_cons_of_mem _ he',h1⟩
theorem aAM:∀ (l:List Oper) (acc:List Nat) (i:Nat),i<acc.length→(xY l acc).getD i 0=acc.getD i 0
 | [],acc,i,h=>rfl
 | o :: r,acc,i,h=>by
  simp only [xY]
  rw [aAM r _ i (by simp;omega)]
  rw [List.getD_eq_getElem?_getD,List.getD_eq_getElem?_getD,List.getElem?_append_left h]
theorem aFH:∀ (l:List Oper) (acc:List Nat) (k:Nat) (o:Oper),l[k]?=some o→∃ acc',acc'.length=acc.length+k∧(∀ i,i<acc'.length→acc'.getD i 0=(xY l acc).getD i 0)∧(xY l acc).getD (acc.length+k) 0=aKg acc' o
 | [],acc,k,o,h=>by simp at h
 | x :: r,acc,0,o,h=>by
  simp at h;subst h
  refine ⟨acc,rfl,fun i hi=>?_,?_⟩
  ·
   simp only [xY]
   rw [aAM r _ i (by simp;omega),List.getD_eq_getElem?_getD,List.getD_eq_getElem?_getD,List.getElem?_append_left hi]
  ·
   simp only [xY,Nat.add_zero]
   rw [aAM r _ _ (by simp)]
   simp [List.getD_eq_getElem?_getD]
 | x :: r,acc,k+1,o,h=>by
  simp at h
  obtain ⟨acc',h1,h2,h3⟩:=aFH r (acc++[aKg acc x]) k o h
  refine ⟨acc',by rw [h1];simp;omega,h2,?_⟩
  rw [← h3]
  simp only [xY]
  congr 1
  simp;omega
theorem aCi {ops:Array Oper} (hord:∀ i,i<ops.size→∃ o,ops[i]?=some o∧∀ e∈o.after,Region.binds .any e=true→e.on<i):∀ (n i j:Nat),i<n→i<ops.size→((xY ops.toList []).getD i 0).testBit j=true→iD ops n j i=true
 | 0,i,j,h,_,_=>by omega
 | n+1,i,j,h,hi,hb=>by
  obtain ⟨o,ho,hlt⟩:=hord i hi
  obtain ⟨acc',h1,h2,h3⟩:=aFH ops.toList [] i o (by rw [Array.getElem?_toList];exact ho)
  simp only [List.length_nil,Nat.zero_add] at h1 h3
  rw [h3] at hb
  rcases aCa o.after.toList 0 j hb with h4 | ⟨e,he,hbe,h4⟩
  ·
   simp at h4
  ·
   have he':e∈o.after:=by simpa using he
   have hel:=hlt e he' hbe
   simp only [iD,ho]
   refine Array.any_eq_true'.2 ⟨e,he',?_⟩
   simp only [hbe,Bool.true_and,Bool.or_eq_true,beq_iff_eq]
   rcases h4 with h4 | h4
   ·
    exact .inl h4
   ·
    rw [h2 e.on (by omega)] at h4
    exact .inr (aCi hord n e.on j (by omega) (by omega) h4)
abbrev Tab:=List (Option Nat × List Nat)
def yB (ops:Array Oper):Tab:=ops.toList.map fun o=>(o.dst,o.looksAt ops)
def aBW (tab:Tab) (i j:Nat):Bool:=match tab[i]?,tab[j]? with
 | some (d,_),some (dj,lj)=>(match d with | some d=>!lj.contains d&&(i==j||dj != some d) | _=>true)
 | _,_=>false
def aJN (tab:Tab) (j i:Nat):Bool:=match tab[j]?,tab[i]? with
 | some (dj,_),some (_,li)=>(match dj with | some d=>li.contains d | _=>false)
 | _,_=>true
def aGG (ms:List Nat) (j i:Nat):Bool:=(ms.getD i 0).testBit j
def okT (tab:Tab) (ms:List Nat):List PI→List Nat→Bool
 | [],_=>true
 | it :: r,done =>
  decide (it.ix<tab.length)&&!done.contains it.ix&&(done.all fun j=>!aJN tab j it.ix||aGG ms j it.ix) &&
  (match it with
   | .q i=>(match tab[i]? with | some (some _,_)=>true | _=>false)&&aBW tab i i&&(done.all fun j=>aBW tab i j)
   | .n i rl=>(done.all fun j=>aBW tab i j||aGG ms j i)&&(r.all fun x=>aGG ms i x.ix)&&(done.all fun j=>rl.contains j||aGG ms j i)) &&
  okT tab ms r (it.ix :: done)
def aJQ:Nat→List Oper→Bool
 | _,[]=>true
 | i,o :: r=>(o.after.toList.all fun e=>!Region.binds .any e||Nat.blt e.on i)&&aJQ (i+1) r
def aJY (ops:Array Oper) (pl:List PI) (tab:Tab) (ms:List Nat):Bool :=
 decide (yB ops=tab)&&decide (xY ops.toList []=ms)&&aJQ 0 ops.toList&&okT tab ms pl []&&((List.range tab.length).all fun i=>pl.any fun x=>x.ix==i)
theorem aFN:∀ (l:List Oper) (k i:Nat) (o:Oper),aJQ k l=true→l[i]?=some o→∀ e∈o.after,Region.binds .any e=true→e.on<k+i
 | [],k,i,o,_,h=>by simp at h
 | x :: r,k,0,o,h,ho=>by
  simp at ho;subst ho
  simp only [aJQ,Bool.and_eq_true] at h
  intro e he hb
  have:=List.all_eq_true.1 h.1 e (by simpa using he)
  simp only [hb,Bool.not_true,Bool.false_or] at this
  exact yL this
 | x :: r,k,i+1,o,h,ho=>by
  simp at ho
  simp only [aJQ,Bool.and_eq_true] at h
  intro e he hb
  have:=aFN r (k+1) i o h.2 ho e he hb
  omega
theorem aAi (ops:Array Oper) (i:Nat):(yB ops)[i]?=(ops[i]?).map fun o=>(o.dst,o.looksAt ops):=by
 unfold yB
 rw [List.getElem?_map,Array.getElem?_toList]
theorem aEi {ops:Array Oper}{i j:Nat}:aBW (yB ops) i j=tA ops i j:=by
 unfold aBW tA
 rw [aAi,aAi]
 cases ops[i]? <;> cases ops[j]? <;> rfl
theorem aMi {ops:Array Oper}{i j:Nat}:aJN (yB ops) j i=wC ops j i:=by
 unfold aJN wC
 rw [aAi,aAi]
 cases ops[i]? <;> cases ops[j]? <;> rfl
theorem zK {α:Type}{l:List α}{p q:α→Bool} (h:∀ x∈l,p x=true→q x=true) (hp:l.all p=true):l.all q=true:=List.all_eq_true.2 fun x hx=>h x hx (List.all_eq_true.1 hp x hx)
theorem aHC {ops:Array Oper}{ms:List Nat} (hw:∀ i j,i<ops.size→aGG ms j i=true→iD ops ops.size j i=true):∀ (pl:List PI) (done:List Nat),okT (yB ops) ms pl done=true→okL ops pl done=true
 | [],_,_=>rfl
 | it :: r,done,h=>by
  simp only [okT,Bool.and_eq_true] at h
  obtain ⟨⟨⟨⟨h1,h2⟩,h3⟩,h4⟩,h5⟩:=h
  have hlt:it.ix<ops.size:=by have:=of_decide_eq_true h1;simpa [yB] using this
  have hi:∀ {j:Nat},aGG ms j it.ix=true→iD ops ops.size j it.ix=true:=fun hb=>hw _ _ hlt hb
  simp only [okL,Bool.and_eq_true]
  refine ⟨⟨⟨⟨decide_eq_true hlt,h2⟩,zK (fun j _ h=>?_) h3⟩,?_⟩,aHC hw r _ h5⟩
  ·
   rw [aMi,Bool.or_eq_true] at h
   rw [Bool.or_eq_true]
   exact h.imp id hi
  ·
   cases it with
   | q i =>
    simp only [Bool.and_eq_true] at h4 ⊢
    refine ⟨⟨?_,by rw [← aEi];exact h4.1.2⟩,zK (fun j _ h=>by rw [← aEi];exact h) h4.2⟩
    have h6:=h4.1.1
    rw [aAi] at h6
    cases ho:ops[i]? with
    | none=>rw [ho] at h6;cases h6
    | some o =>
     rw [ho] at h6
     simp only [Option.map_some] at h6
     split at h6
     ·
      rename_i d l he;simp only [Option.some.injEq,Prod.mk.injEq] at he;simp [he.1]
     ·
      cases h6
   | n i rl =>
    have hi:∀ {j:Nat},aGG ms j i=true→iD ops ops.size j i=true:=hi
    simp only [Bool.and_eq_true] at h4 ⊢
    refine ⟨⟨zK (fun j _ h=>?_) h4.1.1,zK (fun x hx h=>?_) h4.1.2⟩,zK (fun j _ h=>?_) h4.2⟩
    ·
     rw [aEi,Bool.or_eq_true] at h
     rw [Bool.or_eq_true]
     exact h.imp id hi
    ·
     by_cases hx2:x.ix<ops.size
     ·
      exact hw _ _ hx2 h
     ·
      exfalso
      have key:∀ (l:List PI) (dn:List Nat),okT (yB ops) ms l dn=true→∀ y∈l,y.ix<ops.size:=by
       intro l
       induction l with
       | nil=>intro dn _ y hy;cases hy
       | cons z l ihl =>
        intro dn hz y hy
        simp only [okT,Bool.and_eq_true] at hz
        rcases List.mem_cons.1 hy with rfl | hy
        ·
         have:=of_decide_eq_true hz.1.1.1.1;simpa [yB] using this
        ·
         exact ihl _ hz.2 y hy
      exact hx2 (key r _ h5 x hx)
    ·
     rw [Bool.or_eq_true] at h ⊢
     exact h.imp id hi
theorem aJZ {ops:Array Oper}{pl:List PI}{tab:Tab}{ms:List Nat} (h:aJY ops pl tab ms=true):aAP ops pl=true:=by
 simp only [aJY,Bool.and_eq_true] at h
 obtain ⟨⟨⟨⟨h1,h2⟩,h3⟩,h4⟩,h5⟩:=h
 have h1:=of_decide_eq_true h1
 have h2:=of_decide_eq_true h2
 subst h1 h2
 have hord:∀ i,i<ops.size→∃ o,ops[i]?=some o∧∀ e∈o.after,Region.binds .any e=true→e.on<i:=fun i hi=>by
  refine ⟨_,Array.getElem?_eq_getElem hi,fun e he hb=>?_⟩
  have:=aFN ops.toList 0 i _ h3 (by rw [Array.getElem?_toList];exact Array.getElem?_eq_getElem hi) e he hb
  omega
 simp only [aAP,Bool.and_eq_true]
 refine ⟨⟨aHC (fun i j hi hb=>aCi hord ops.size i j hi hi hb) pl [] h4,by simpa [yB] using h5⟩,List.all_eq_true.2 fun i hi=>?_⟩
 obtain ⟨o,ho,hlt⟩:=hord i (List.mem_range.1 hi)
 rw [ho]
 refine Array.all_eq_true'.2 fun e he=>?_
 cases hb:Region.binds .any e with
 | false=>rfl
 | true=>simp [hlt e he hb]
theorem gP {P:Program}{V:List Nat}{k0:Nat}{Q:Exit→Fr→St→Prop}{fr:Fr}{σ:St} (pl:List PI) (tab:Tab) (ms:List Nat) {id:Nat}{l:List Oper} (hB:aJY l.toArray pl tab ms=true) (h:ad P l.toArray pl fr σ fun fr σ=>hold (Q .normal (prune V fr) σ)):nD P V k0 (.region id l.toArray true) Q fr σ :=
 aMV pl (aJZ hB) h
end Go.Proofs.YtnigjppddilpcaaGreatDoor.Abs
namespace Go.Proofs.YtnigjppddilpcaaGreatDoor.Abs
open Go
set_option linter.unusedVariables false
set_option linter.unusedSimpArgs false
def aKm (P:Program) (t:TypeId):Option (List TypeId):=match P.underlying t with | some (.struct fs)=>some (fs.toList.map (·.type)) | _=>none
def aKn (P:Program) (t:TypeId):Option (TypeId × Nat):=match P.underlying t with | some (.slice e)=>some (e,P.cellsOf e) | _=>none
def oG (x:Int):Prop:=-9223372036854775808≤x∧x≤9223372036854775807
def okW (k:IntKind) (x:Int):Prop:=(Lit.int k x).wf=true
def okS (s:List UInt8):Prop:=s.length≤140737488351232
def uG {α:Type} (k:Nat) (ok:α→Prop) (xs:List α):Prop:=xs.length≤9223372036854775807∧xs.length*k≤140737488351232∧∀ x∈xs,ok x
section
variable {P:Program}{n:Nat}{t e:TypeId}{ps:List PV}
theorem aJ9 {k:IntKind} (h:sD P t=some k) (hs:gB P n t ps):∃ x,ps=[.int k x]∧okW k x:=by
 cases n with
 | zero=>exact hs.elim
 | succ n =>
  have hu:=uY h
  simp only [gB,hu] at hs
  exact hs
theorem aOe {x:Int} (h:okW .i64 x):oG x:=by
 unfold okW Lit.wf at h
 unfold oG
 simp only [Bool.and_eq_true,decide_eq_true_eq] at h
 exact ⟨h.1,h.2⟩
theorem lU (h:sD P t=some .i64) (hs:gB P n t ps):∃ x,ps=[.int .i64 x]∧oG x:=by
 obtain ⟨x,h1,h2⟩:=aJ9 h hs
 exact ⟨x,h1,aOe h2⟩
theorem aAT (h:eR P t=2) (hs:gB P n t ps):∃ x,ps=[.str x]∧okS x:=by
 cases n with
 | zero=>exact hs.elim
 | succ n =>
  have hu:=aBf h
  simp only [gB,hu] at hs
  exact hs
theorem aHz {α:Type}{row:α→List PV}{ok:α→Prop}:∀ (xs:List (List PV)),(∀ x∈xs,∃ a,x=row a∧ok a)→∃ as:List α,xs=as.map row∧∀ a∈as,ok a
 | [],_=>⟨[],rfl,by simp⟩
 | x :: xs,h=>by
  obtain ⟨a,rfl,ha⟩:=h x (by simp)
  obtain ⟨as,rfl,has⟩:=aHz xs (fun y hy=>h y (by simp [hy]))
  exact ⟨a :: as,rfl,by simpa using ⟨ha,has⟩⟩
theorem aHH {α:Type}{sz k:Nat}{row:α→List PV}{ok:α→Prop} (h:aKn P t=some (e,sz)) (hk:P.bytesOf e=k) (hs:gB P n t ps) (conv:∀ m,m<n→∀ qs,gB P m e qs→∃ a:α,qs=row a∧ok a):∃ xs:List α,ps=[PV.ls sz row xs]∧uG k ok xs:=by
 cases n with
 | zero=>exact hs.elim
 | succ n =>
  unfold aKn at h
  cases hu:P.underlying t with
  | none=>simp [hu] at h
  | some d =>
   cases d <;> simp [hu] at h
   rename_i e'
   obtain ⟨rfl,rfl⟩:=h
   simp only [gB,hu] at hs
   obtain ⟨xs,rfl,hx,hl,hl2⟩:=hs
   rw [hk] at hl2
   obtain ⟨as,rfl,has⟩:=aHz (row:=row) (ok:=ok) xs (fun x hxm=>conv n (by omega) x (hx x hxm))
   exact ⟨as,rfl,by simpa using hl,by simpa using hl2,has⟩
theorem aKa {l:List TypeId} (h:aKm P t=some l) (hs:gB P n t ps):∃ m,m<n∧aBA (gB P m) l ps:=by
 cases n with
 | zero=>exact hs.elim
 | succ n =>
  unfold aKm at h
  cases hu:P.underlying t with
  | none=>simp [hu] at h
  | some d =>
   cases d <;> simp [hu] at h
   subst h
   simp only [gB,hu] at hs
   exact ⟨n,by omega,by simpa using hs⟩
end
end Go.Proofs.YtnigjppddilpcaaGreatDoor.Abs
namespace Go.Proofs.YtnigjppddilpcaaGreatDoor.Abs
open Go
set_option linter.unusedVariables false
set_option linter.unusedSimpArgs false
def AV.ar {α:Type} (row:α→List PV) (xs:List α):AV:=.agg (AV.cs ((xs.map row).flatten))
theorem aKK (f:Nat→Bool) (l:List PV):AV.demL f (AV.cs l)=AV.cs l:=by rw [AV.demL_eq];simp [AV.cs,AV.dem]
theorem rH {α:Type}{row:α→List PV}{xs:List α}{f:Nat→Bool}:(AV.ar row xs).dem f=AV.ar row xs:=by simp only [AV.ar,AV.dem,aKK]
section
variable {P:Program}{d:Option Tmp}{ty:TypeId}{pos:String}{af:Array Edge}{gd:Option (Nat × Bool)}{ev:Operand→AV}{σ:St}{x y z:Operand}{t t2:TypeId}{k k':IntKind}{a b:Int}{v:AV}
theorem aMr {as bs:List AV}{ks:List Nat}{n:Nat}{r:Bool} (hk:eqK P 40 t=some ks) (ht:fA P t=some (true,n)) (hg:P.eqGuardType P.depth t=false) (hx:ev x=.agg as) (hy:ev y=.agg bs) (hn:ks.length=n) (hr:nI ks as bs=some r) :
 Pv P ⟨d,.binOp .neq t x y t2,ty,pos,af,gd⟩ ev σ (.c (.bool (!r))):=fun K h=>.inr (.inl ⟨_,⟨as,bs,ks,r,hx,hy,hk,by rw [hn];exact ht,hg,hr,.inr ⟨rfl,rfl⟩⟩,h⟩)
theorem aMs {e:TypeId}{sz n:Nat}{ag:Bool}{parts:Array (Nat × Operand)}{rows:List (List PV)}{cs:List AV}{zs:List Value} (hs:List Nat) (ht:wT P t=some (e,sz,n,ag)) (hz:gK P t=some zs) (hl:zs.length=parts.toList.length*sz) (hr:qS hs sz ev 0 parts.toList=some rows) (hc:rows.flatten.map AV.c=cs) :
  Pv P ⟨d,.build t parts,ty,pos,af,gd⟩ ev σ (.agg cs):=fun K h=>by
 subst hc
 exact .inr (.inl ⟨_,⟨e,sz,n,ag,hs,_,zs,ht,hz,hl,hr,rfl⟩,h⟩)
def aD2 {α:Type} (n:Nat) (xs:List α):Option Unit:=if n≤xs.length∧0<xs.length then some () else none
theorem aHb {α:Type}{n:Nat}{xs:List α}{z:Unit} (h:aD2 n xs=some z):n≤xs.length∧0<xs.length:=by
 unfold aD2 at h
 split at h
 ·
  assumption
 ·
  cases h
theorem aNf {α:Type}{e:TypeId}{sz n:Nat}{ag:Bool}{row:α→List PV}{xs:List α}{z:Unit} (ht:wT P t=some (e,sz,n,ag)) (hx:isl (ev x) sz row xs) (hz:aD2 n xs=some z):Pv P ⟨d,.sliceToArrayPointer t x,ty,pos,af,gd⟩ ev σ (.eptr ((xs.map row).flatten) 0):=fun K h=>by
 obtain ⟨h1,h2⟩:=aHb hz
 refine .inr (.inl ⟨_,⟨e,sz,n,ag,xs.map row,ht,?_,by simpa using h1,by simpa using h2,rfl⟩,h⟩)
 rcases hx with hx | ⟨t0,hx⟩
 ·
  exact .inl hx
 ·
  exact .inr ⟨t0,hx⟩
theorem aKR {α:Type}{xs:List α}{x0 x1 x2 x3:α} (h0:gR xs 0=some x0) (h1:gR xs 1=some x1) (h2:gR xs 2=some x2) (h3:gR xs 3=some x3):∃ r,xs=x0 :: x1 :: x2 :: x3 :: r:=by
 have g0:=(qE h0).2.2
 have g1:=(qE h1).2.2
 have g2:=(qE h2).2.2
 have g3:=(qE h3).2.2
 match xs,g0,g1,g2,g3 with
 | a :: b :: c :: d :: r,g0,g1,g2,g3 =>
  simp at g0 g1 g2 g3
  exact ⟨r,by rw [g0,g1,g2,g3]⟩
 | [],g0,_,_,_=>simp at g0
 | [_],_,g1,_,_=>simp at g1
 | [_,_],_,_,g2,_=>simp at g2
 | [_,_,_],_,_,_,g3=>simp at g3
theorem aK5 {xs:List UInt8}{x0 x1 x2 x3:UInt8} (ht:fA P t=some (true,4)) (hx:ev x=.eptr ((xs.map eD).flatten) 0) (h0:gR xs 0=some x0) (h1:gR xs 1=some x1) (h2:gR xs 2=some x2) (h3:gR xs 3=some x3) :
  Pv P ⟨d,.load t x,ty,pos,af,gd⟩ ev σ (.agg [.c (.int .u8 x0.toNat),.c (.int .u8 x1.toNat),.c (.int .u8 x2.toNat),.c (.int .u8 x3.toNat)]):=by
 obtain ⟨r,rfl⟩:=aKR h0 h1 h2 h3
 exact iL (us:=[.int .u8 x0.toNat,.int .u8 x1.toNat,.int .u8 x2.toNat,.int .u8 x3.toNat]) ht hx (by simp [eD,Nat.ble_eq]) (by simp [eD])
end
end Go.Proofs.YtnigjppddilpcaaGreatDoor.Abs
namespace Go.Proofs.YtnigjppddilpcaaGreatDoor.Abs
open Go
set_option linter.unusedVariables false
set_option linter.unusedSimpArgs false
variable {mo:Bool}
def AV.ms {α:Type} (t sz:Nat) (row:α→List PV) (xs:List α):AV:=.mrow t sz (xs.map row)
abbrev aM {α:Type}{t sz:Nat}{row:α→List PV}{xs:List α}:AV:=AV.ms t sz row xs
mutual
def AV.putM (t sz:Nat) (ys:List (List PV)):AV→AV
 | .mrow t' sz' xs=>if t'==t then (if sz'==sz then .mrow t' sz' ys else .any) else .mrow t' sz' xs
 | .mptr t' sz' j off r=>if t'==t then .any else .mptr t' sz' j off r
 | .own t' sz' xs=>if t'==t then .any else .own t' sz' xs
 | .agg cs=>.agg (AV.putML t sz ys cs)
 | .tup cs=>.tup (AV.putML t sz ys cs)
 | .fn f cs=>.fn f (AV.putML t sz ys cs)
 | a=>a
def AV.putML (t sz:Nat) (ys:List (List PV)):List AV→List AV
 | []=>[]
 | a :: as=>AV.putM t sz ys a :: AV.putML t sz ys as
end
def Fr.putM (t sz:Nat) (ys:List (List PV)):Fr→Fr
 | []=>[]
 | (d,a) :: r=>(d,a.putM t sz ys) :: Fr.putM t sz ys r
def St.putM (t sz:Nat) (ys:List (List PV)):St→St
 | []=>[]
 | cs :: r=>AV.putML t sz ys cs :: St.putM t sz ys r
def Fr.hasM (fr:Fr) (t sz i:Nat) (row:List PV):List (Nat × Nat)→Prop
 | []=>True
 | (d,off) :: D=>fr.get d=.mptr t sz i off row∧Fr.hasM fr t sz i row D
def Fr.addM (t sz i:Nat) (row:List PV) (base:Fr):List (Nat × Nat)→Fr
 | []=>base
 | (d,off) :: D=>(d,.mptr t sz i off row) :: Fr.addM t sz i row base D
theorem aFz {fr:Fr}{t sz i:Nat}{row row':List PV}:∀ {D:List (Nat × Nat)},fr.hasM t sz i row D→Fr.keepM fr t sz i row row' D (Fr.addM t sz i row' (fr.setM t sz i row') D)
 | [],_=>rfl
 | (d,off) :: D,h=>⟨h.1,_,rfl,aFz h.2⟩
section
variable {P:Program}{d:Option Tmp}{ty:TypeId}{pos:String}{af:Array Edge}{gd:Option (Nat × Bool)}{ev:Operand→AV}{σ:St}{x y z:Operand}{t t2:TypeId}{k k':IntKind}{v:AV}
theorem aMz {e:TypeId}{sz n id off:Nat}{ag:Bool} (ht:wT P t=some (e,sz,n,ag)) (hx:ev x=.box id off):Pv P ⟨d,.slice t x .none .none .none,ty,pos,af,gd⟩ ev σ (.view id off n):=fun K h =>
 .inr (.inr (.inl ⟨_,⟨e,sz,n,ag,id,off,ht,hx,rfl⟩,h⟩))
theorem aMu {α:Type}{t0 sz:Nat}{row:α→List PV}{xs:List α} (ht:eR P t=3) (hx:ev x=AV.ms t0 sz row xs):Pv P ⟨d,.call { callee:=.builtin .len,args:=#[x],argTypes:=#[t] },ty,pos,af,gd⟩ ev σ (.c (.int .i64 xs.length)):=fun K h =>
 .inr (.inr (.inl ⟨_,⟨x,t,xs.length,rfl,rfl,ht,rfl,.inr ⟨t0,sz,xs.map row,hx,by simp⟩⟩,h⟩))
theorem aLR {α:Type}{e:TypeId}{sz by_ t0:Nat}{row:α→List PV}{xs:List α}{i:Int}{u:α}{cs:List PV} (ht:fO P t=some (e,sz,by_)) (hx:ev x=AV.ms t0 sz row xs) (hy:ev y=.c (.int k i)) (hg:gR xs i=some u) (he:row u=cs) :
  Pv P ⟨d,.indexAddr t x y,ty,pos,af,gd⟩ ev σ (.mptr t0 sz i.toNat 0 cs):=fun K h=>by
 obtain ⟨h0,h1,h2⟩:=qE hg
 exact .inr (.inr (.inl ⟨_,⟨e,sz,by_,k,i,ht,hy,h0,.inr ⟨t0,_,cs,hx,by rw [List.getElem?_map,h2,← he];rfl,rfl⟩⟩,h⟩))
theorem aK6 {n m:Int} (hx:ev x=.c (.int k n)) (hm:(if k.signed then -1 else k.max)=m):Pv P ⟨d,.unOp .xor t x,ty,pos,af,gd⟩ ev σ (.c (.int k (eT .xor k m n))):=fun K h =>
 .inr (.inr (.inl ⟨_,⟨k,n,hx,rfl⟩,by rw [hm];exact h⟩))
theorem aK7 {n t0 sz i off:Nat}{cs:List PV}{p:PV} (ht:fA P t=some (false,n)) (hx:ev x=.mptr t0 sz i off cs) (hc:cs[off]?=some p):Pv P ⟨d,.load t x,ty,pos,af,gd⟩ ev σ (.c p):=fun K h =>
 .inr (.inr (.inl ⟨_,⟨false,n,t0,sz,i,off,cs,ht,hx,.inr ⟨rfl,p,hc,rfl⟩⟩,h⟩))
end
section
variable {P:Program}{all r:List Oper}{d:Nat}{ty:TypeId}{pos:String}{af:Array Edge}{fr:Fr}{σ:St}{K:Fr→St→Prop}{v:AV}
theorem aNL {o:Oper}{dm:Option (Nat→Bool)}{v:AV}{σ':St} (hp:pT o=true) (h:axg P o fr.ev σ dm v σ') (hk:K ((fr.demo dm).put o.dst v) σ'):aop P o fr σ K:=lO hp (.inr (.inr (.inr ⟨dm,v,σ',h,hk⟩)))
theorem aMl {α:Type}{s x:Operand}{t tx e:TypeId}{sz by_ t0 id off m:Nat}{row:α→List PV}{xs ys zs:List α}{cs us:List AV} (ht:fO P t=some (e,sz,by_)) (hb:Nat.blt 0 by_=true) (htx:eR P tx=3) (hs:fr.ev s=.os t0 sz row xs) (hx:fr.ev x=.view id off m)
  (hcs:σ[id]?=some cs) (hl:ys.length=m) (hu:(cs.drop off).take (m*sz)=us) (he:us=((ys.map row).flatten).map AV.c) (hy:∀ u,(row u).length=sz) (hz:app by_ xs ys=some zs)
  (h:eZ mo P all r ((d,.os (16*d) sz row zs) :: fr.dem (aB3 d t0)) (σ.dem (aB3 d t0)) K):eZ mo P all (⟨some d,.call { callee:=.builtin .append,args:=#[s,x],argTypes:=#[t,tx] },ty,pos,af,none⟩ :: r) fr σ K:=by
 obtain ⟨hm,rfl⟩:=zM hz
 refine jF (aNL rfl ⟨s,x,t,tx,e,sz,by_,aB3 d t0,xs.map row,ys.map row,rfl,rfl,ht,yL hb,htx,rfl,by simp [hy],by simpa using hm,by simp [aB3,sP],rfl,rfl,.inr (.inr (.inr (.inr ⟨id,off,m,cs,hx,hcs,by simpa using hl,by rw [hu,he]⟩))),.inl ⟨.inr ⟨t0,by simp [aB3],hs⟩,rfl⟩⟩ ?_)
 have e1:AV.own (iQ (some d)) sz (xs.map row++ys.map row)=AV.os (16*d) sz row (xs++ys):=by simp [AV.os,iQ]
 simp only [e1]
 exact h
theorem aMT {α:Type}{row:α→List PV}:([]:List AV)=((([]:List α).map row).flatten).map AV.c:=rfl
theorem aHW {n:Int}{b:UInt8}{xs:List UInt8}{as:List AV} (h:jP n=some b) (t:as=((xs.map eD).flatten).map AV.c):.c (.int .u8 n) :: as=(((b :: xs).map eD).flatten).map AV.c:=by
 rw [aA9 h,t];rfl
theorem aNa {α:Type}{t:TypeId}{x y:Operand}{ag:Bool}{n t0 sz i off:Nat}{cs vs:List PV}{row:α→List PV}{xs:List α}{u:α} (hs:List Nat) (D:List (Nat × Nat)) (ht:fA P t=some (ag,n)) (hx:fr.ev x=.mptr t0 sz i off cs) (hy:fr.ev y=v) (hsol:v.solid=true) (hv:AV.pvhs? hs v.cells=some vs)
  (hn:vs.length=n) (hf:Nat.ble (off+n) sz=true) (hu:row u=cs.take off++(vs++cs.drop (off+n))) (hD:fr.hasM t0 sz i cs D) (h1:fr.setM t0 sz i (row u)=fr.putM t0 sz ((xs.map row).set i (row u))) (h2:σ.setM t0 sz i (row u)=σ.putM t0 sz ((xs.map row).set i (row u)))
  (h:eZ true P all r (Fr.addM t0 sz i (row u) (fr.putM t0 sz ((xs.set i u).map row)) D) (σ.putM t0 sz ((xs.set i u).map row)) K):eZ true P all (⟨none,.store t x y,ty,pos,af,none⟩ :: r) fr σ K:=by
 subst hy
 refine aJb ⟨ag,n,t0,sz,i,off,cs,hs,vs,D,_,rfl,ht,hx,hsol,hv,hn,yK hf,aFz hD,?_⟩
 rw [← hu,h1,h2,← List.map_set]
 exact h
theorem aMm {α:Type}{op:Op} (t sz:Nat) (row:α→List PV) (xs:List α) (h1:fr.frz t sz (xs.map row)=fr.fro t) (h2:σ.frz t sz (xs.map row)=σ.fro t) (hv:Ov P ⟨some d,op,ty,pos,af,none⟩ (fr.frz t sz (xs.map row)) (σ.frz t sz (xs.map row)) v)
  (h:eZ true P all r ((d,v) :: fr.frz t sz (xs.map row)) (σ.frz t sz (xs.map row)) K):eZ true P all (⟨some d,op,ty,pos,af,none⟩ :: r) fr σ K :=
 aJc (aJa t sz _ h1 h2 (hv _ h))
theorem aK3 {fo:Operand}{args:Array Operand}{ts:Array TypeId}{f:FuncId}{caps as:List AV}{σr σ':St}{rv:AV}{fr1 fr2:Fr}{σ1:St} (M:List Nat) (k:Nat) (hz:aE3 fr σ fr1 σ1) (hf:fr1.ev fo=.fn f caps) (hc:bR P f as [] rv σr) (ha:leP (AV.lowL [] (args.toList.map fr1.ev++caps)) as) (hl:rv.lite) (hls:σr.lite)
  (hfr:fr.dem (qM [] k)=fr2) (hv:rv.liftM M σ.length k=v) (hσ:σ.dem (qM [] k)++σr.map (AV.liftML M σ.length k)=σ') (h:eZ true P all r ((d,v) :: fr2) σ' K) :
  eZ true P all (⟨some d,.call { callee:=.value fo,args:=args,argTypes:=ts },ty,pos,af,none⟩ :: r) fr σ K:=by
 refine aJc (.inr ?_)
 refine ⟨fr1,σ1,f,caps,k,as,rv,σr,M,hz,hf,tD ha,hc,hl,hls,?_⟩
 subst hfr hv hσ
 exact h
theorem aNU:aE3 fr σ fr σ:=.refl fr σ
theorem aMh {t:Nat}{xs:List UInt8}:(AV.os t 1 eD xs).lite:=fun x hx p hp=>by
 obtain ⟨b,_,rfl⟩:=List.mem_map.1 hx
 simp [eD] at hp
 subst hp
 rfl
end
end Go.Proofs.YtnigjppddilpcaaGreatDoor.Abs
namespace Go.Proofs.YtnigjppddilpcaaGreatDoor.Abs
open Go
set_option linter.unusedVariables false
set_option linter.unusedSimpArgs false
variable {mo:Bool}
theorem r {α:Sort _}{a:α}:a=a:=rfl
theorem sy {α:Type}{a b:α} (h:some a=some b):b=a:=(Option.some.inj h).symm
theorem lr {a:AV}:a.le a:=AV.le_refl a
def aGU:Fr→List Nat
 | []=>[]
 | (i,_) :: r=>i :: aGU r
def aIP (V:List Nat):List Nat→Bool
 | []=>true
 | i :: r=>V.contains i&&aIP V r
theorem aF5 {V:List Nat}:∀ {l:List Nat},aIP V l=true→∀ i∈l,i∈V
 | [],_,i,hi=>by cases hi
 | j :: l,h,i,hi=>by
  simp only [aIP,Bool.and_eq_true,List.contains_iff_mem] at h
  rcases List.mem_cons.1 hi with rfl | hi
  ·
   exact h.1
  ·
   exact aF5 h.2 i hi
theorem aDS {V l:List Nat}{fr:Fr} (h:aIP V l=true) (d:Nat):((prune V fr).get d).le ((prune l fr).get d):=by
 rw [aAQ,aAQ]
 by_cases hd:d∈l
 ·
  rw [if_pos hd,if_pos (aF5 h d hd)];exact AV.le_refl _
 ·
  rw [if_neg hd];exact AV.le_any _
section
variable {P:Program}{V:List Nat}{k0:Nat}{Q:Exit→Fr→St→Prop}{fr:Fr}{σ:St}
theorem aF {all:List Oper}{y:Code}{fr':Fr} (hk:aIP V (aGU fr')=true) (hp:prune (aGU fr') fr=fr') (h:nD P V k0 y Q fr' σ):eZ mo P all [] fr σ fun fr σ=>hold (vN (kw P V k0 y Q) Q .normal (prune V fr) σ):=by
 refine ⟨fr',σ,hU.slots fun d=>?_,h⟩
 have:=aDS (fr:=fr) hk d
 rw [hp] at this
 exact this
theorem tB {ops:Array Oper}{y:Code}{fr':Fr} (hk:aIP V (aGU fr')=true) (hp:prune (aGU fr') fr=fr') (h:nD P V k0 y Q fr' σ):ad P ops [] fr σ fun fr σ=>hold (vN (kw P V k0 y Q) Q .normal (prune V fr) σ):=by
 refine ⟨fr',σ,hU.slots fun d=>?_,h⟩
 have:=aDS (fr:=fr) hk d
 rw [hp] at this
 exact this
theorem aJ {id:Nat}{l:List Oper}{y:Code} (h:eZ true P l l fr σ fun fr σ=>hold (vN (kw P V k0 y Q) Q .normal (prune V fr) σ)):nD P V k0 (.seq (.region id l.toArray false) y) Q fr σ:=aN (aT h)
theorem cC {α:Type}{c:Operand}{x y:Code}{b:Bool}{X Y:Option α}{r:α} (he:cond b X Y=some r) (h:fr.ev c=.c (.bool b)) (h1:b=true→X=some r→nD P V k0 x Q fr σ) (h2:b=false→Y=some r→nD P V k0 y Q fr σ):nD P V k0 (.cond c x y) Q fr σ :=
 aER b h (fun hb=>h1 hb (aJk hb he)) (fun hb=>h2 hb (aJj hb he))
end
theorem aN1 {α:Type}{G:Prop}{b:Bool}{X Y:Option α}{r:α} (he:cond b X Y=some r) (h1:b=true→X=some r→G) (h2:b=false→Y=some r→G):G:=by
 cases hb:b
 ·
  exact h2 hb (aJj hb he)
 ·
  exact h1 hb (aJk hb he)
section
variable {P:Program}{all r:List Oper}{ops:Array Oper}{rp:List PI}{d dj j i:Nat}{op:Op}{ty:TypeId}{pos:String}{af:Array Edge}{fr:Fr}{σ:St}{K:Fr→St→Prop}{v:AV}{b c w:Bool}{x:Operand}
theorem mV (hx:fr.ev x=v) (h:eZ mo P all r ((d,v) :: fr) σ K):eZ mo P all (⟨some d,.move x,ty,pos,af,none⟩ :: r) fr σ K:=aQ rfl (aU hx) h
theorem sV (hx:fr.ev x=v) (h:eZ mo P all r ((d,v) :: fr) σ K):eZ mo P all (⟨some d,.assign x,ty,pos,af,none⟩ :: r) fr σ K:=aQ rfl (zZ hx) h
theorem mI {k:IntKind}{n:Int} (hx:fr.ev x=.c (.int k n)) (h:eZ mo P all r ((d,.c (.int k n)) :: fr) σ K):eZ mo P all (⟨some d,.move x,ty,pos,af,none⟩ :: r) fr σ K:=mV hx h
theorem sI {k:IntKind}{n:Int} (hx:fr.ev x=.c (.int k n)) (h:eZ mo P all r ((d,.c (.int k n)) :: fr) σ K):eZ mo P all (⟨some d,.assign x,ty,pos,af,none⟩ :: r) fr σ K:=sV hx h
theorem mB {n:Bool} (hx:fr.ev x=.c (.bool n)) (h:eZ mo P all r ((d,.c (.bool n)) :: fr) σ K):eZ mo P all (⟨some d,.move x,ty,pos,af,none⟩ :: r) fr σ K:=mV hx h
theorem sB {n:Bool} (hx:fr.ev x=.c (.bool n)) (h:eZ mo P all r ((d,.c (.bool n)) :: fr) σ K):eZ mo P all (⟨some d,.assign x,ty,pos,af,none⟩ :: r) fr σ K:=sV hx h
theorem mS {s:List UInt8} (hx:fr.ev x=.c (.str s)) (h:eZ mo P all r ((d,.c (.str s)) :: fr) σ K):eZ mo P all (⟨some d,.move x,ty,pos,af,none⟩ :: r) fr σ K:=mV hx h
theorem sS {s:List UInt8} (hx:fr.ev x=.c (.str s)) (h:eZ mo P all r ((d,.c (.str s)) :: fr) σ K):eZ mo P all (⟨some d,.assign x,ty,pos,af,none⟩ :: r) fr σ K:=sV hx h
theorem mL {α:Type}{sz:Nat}{row:α→List PV}{xs:List α} (hx:fr.ev x=.c (PV.ls sz row xs)) (h:eZ mo P all r ((d,.c (PV.ls sz row xs)) :: fr) σ K):eZ mo P all (⟨some d,.move x,ty,pos,af,none⟩ :: r) fr σ K:=mV hx h
theorem sL {α:Type}{sz:Nat}{row:α→List PV}{xs:List α} (hx:fr.ev x=.c (PV.ls sz row xs)) (h:eZ mo P all r ((d,.c (PV.ls sz row xs)) :: fr) σ K):eZ mo P all (⟨some d,.assign x,ty,pos,af,none⟩ :: r) fr σ K:=sV hx h
theorem og (hp:pT ⟨some d,op,ty,pos,af,some (j,w)⟩=true) (hj:xX all j=some dj) (hs:fr.get dj=.c (.bool b)) (hv:(b==w)=true→Pv P ⟨some d,op,ty,pos,af,some (j,w)⟩ fr.ev σ v) (h:eZ mo P all r ((d,gv (b==w) v) :: fr) σ K):eZ mo P all (⟨some d,op,ty,pos,af,some (j,w)⟩ :: r) fr σ K :=
 vQ hj hs (fun hc=>eW hp (hv hc)) h
theorem dq (ho:ops[i]?=some ⟨some d,op,ty,pos,af,none⟩) (hp:pT ⟨some d,op,ty,pos,af,none⟩=true) (hv:Pv P ⟨some d,op,ty,pos,af,none⟩ fr.ev σ v) (h:ad P ops rp ((d,v) :: fr) σ K):ad P ops (.q i :: rp) fr σ K:=d_q ho (rA hp hv) h
end
open RowKit in
theorem aGm {P:Program}{f:FuncId}{args:List AV}{r:AV} (hc:tK P f=true)
  (h:∀ (g:G) (w:World) (vs:Array Value),cO g w vs args→(∀ b o,g.I b o→b<w.heap.size)→Glo g.I w→Calls P f vs w fun e w'=>∃ v,e=.returned v∧Below w.heap.size w w'∧∀ g',fW g' w' v r):bR P f args [] r []:=by
 refine ⟨hc,fun w I β τ vs hI hnd hlt hβI hτ hτi hlen hst hargs hglo=>?_⟩
 have hβ:β=[]:=List.eq_nil_of_length_eq_zero hlen
 subst hβ
 refine (h ⟨I,[],τ⟩ w vs hargs hI hglo).mono fun e w'=>?_
 rintro ⟨v,he,hb,hv⟩
 refine ⟨v,⟨I,[],fun _=>none⟩,he,⟨hb.os,hb.tape,hb.output,hb.size,fun b hb' _ _=>hb.block b hb',fun _ _ h=>h,fun _ _ h _ _=>h,fun b o h=>Nat.lt_of_lt_of_le (hI b o h) hb.size,rfl,by simp,List.nodup_nil,rfl,by simp,by simp,
  fun t b h=>(by cases h),fun t t' b h=>(by cases h),fun id cs b hs=>(by simp at hs),fun b o h=>(by simp [World.cell?,hb.block b (hI b o h)]),hglo⟩,hv _⟩
theorem aMC {I:Nat→Nat→Prop}{w:World}{v:Value}{s:List UInt8} (h:RV I w v (.str s)):v=.string ⟨s.toArray⟩:=by cases h;rfl
theorem aNl {g:G}{w:World}{v:Value}{p:PV} (h:fW g w v (.c p)):RV g.I w v p:=by cases h;assumption
theorem rc1 {g:G}{w:World}{vs:Array Value}{a:AV} (h:cO g w vs [a]):∃ v,vs=#[v]∧fW g w v a:=by
 obtain ⟨h1,h2⟩:=h
 obtain ⟨l⟩:=vs
 match l,h1 with
 | [v],_=>exact ⟨v,rfl,h2 0 v a rfl rfl⟩
theorem aMA {g:G}{w:World}{vs:Array Value}{s:List UInt8} (h:cO g w vs [.c (.str s)]):vs=#[.string ⟨s.toArray⟩]:=by
 obtain ⟨v,rfl,hv⟩:=rc1 h
 rw [aMC (aNl hv)]
theorem aJE {α:Type}{p:Prop} [Decidable p] {a b:α} (h:(if p then some a else none)=some b):p∧b=a:=by
 by_cases hp:p
 ·
  rw [if_pos hp] at h;exact ⟨hp,(Option.some.inj h).symm⟩
 ·
  rw [if_neg hp] at h;cases h
theorem aEt {P:Program}{I:Nat→Nat→Prop}{w:World} (h:Glo I w) {k:Nat}{p:Array Value→Prop} (hm:(k,p)∈aJA) {n:String} (hn:P.globalNamed n=some k):∃ cs,w.var? P n=some cs∧p cs:=by
 obtain ⟨_,cs,e,l,h2,_,h4⟩:=h _ hm
 exact ⟨cs,by simp [World.var?,hn,h2],h4⟩
end Go.Proofs.YtnigjppddilpcaaGreatDoor.Abs

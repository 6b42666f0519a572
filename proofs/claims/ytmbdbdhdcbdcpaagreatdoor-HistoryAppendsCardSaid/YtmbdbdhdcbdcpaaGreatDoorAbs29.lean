/- The printed walks' steps: guards whose way is known, parts that may end in any way, types' places. The printed walks' steps: calls that are handed no variable, cells of bytes. The printed walks' steps in regions whose order is drawn. From a law's data to typed values. The printed walks' steps: arrays, and equality of structs. The printed walks' steps: rows that may be stored into, arrays told by slices. The printed walks' steps, in fewer signs. -/
import Derived.Test.YtmbdbdhdcbdcpaaGreatDoorAbs24
import Derived.Test.YtmbdbdhdcbdcpaaGreatDoorPk1
namespace Go.Proofs.YtmbdbdhdcbdcpaaGreatDoor.Abs
open Go
set_option linter.unusedVariables false
set_option linter.unusedSimpArgs false
theorem keq {e w:Bool} (h:e=w):(e==w)=true:=by simp [h]
theorem band {a b:Bool} (h:a=true) (h2:b=true):(a&&b)=true:=by rw [h,h2];rfl
section
variable {P:Program}{all r:List Oper}{d dj j:Nat}{op:Op}{ty:TypeId}{pos:String}{af:Array Edge}{fr:Fr}{σ:St}{K:Fr→St→Prop}{Kq:Fr→Prop}{v:AV}{b c w:Bool}
end
section
variable {P:Program}{d:Option Tmp}{ty:TypeId}{pos:String}{af:Array Edge}{gd:Option (Nat × Bool)}{ev:Operand→AV}{σ:St}{x y z:Operand}{q p:Bool}
end
def plOf (l:List (Nat × Option Nat)) (i:Nat):Option (Nat × Nat):=match l[i]? with | some (o,some n)=>some (o,n) | _=>none
def plAll (P:Program) (t:TypeId):Option (List (Nat × Option Nat)):=match tyFields P t with | some fs=>some (fs.toList.map fun x=>(x.offset,(P.info? x.type).map (·.size))) | _=>none
theorem tyPlace_all {P:Program}{t:TypeId}{l:List (Nat × Option Nat)} (h:plAll P t=some l) (i:Nat):tyPlace P t i=plOf l i:=by
 unfold plAll at h
 unfold tyPlace plOf
 split at h
 ·
  rename_i fs hf
  cases h
  simp only [hf,List.getElem?_map,Array.getElem?_toList]
  cases hx:fs[i]? with
  | none=>rfl
  | some x=>simp only [Option.map_some];cases P.info? x.type <;> rfl
 ·
  cases h
section
variable {P:Program}{V:List Nat}{k0:Nat}{Q:Exit→Fr→St→Prop}{fr:Fr}{σ:St}{K:Fr→St→Prop}
def Closed (k0:Nat) (Q:Exit→Fr→St→Prop):Prop:=∀ fr σ fr' σ',Weak k0 fr σ fr' σ'→Q .normal fr' σ'→Q .normal fr σ
def kw (P:Program) (V:List Nat) (k0:Nat) (y:Code) (Q:Exit→Fr→St→Prop):Fr→St→Prop:=fun fr σ=>∃ fr' σ',Weak k0 fr σ fr' σ'∧awp P V k0 y Q fr' σ'
theorem w_seqw {x y:Code} (h:awp P V k0 x (seqQ (kw P V k0 y Q) Q) fr σ):awp P V k0 (.seq x y) Q fr σ:=by
 refine awp_mono x (fun e fr σ he=>?_) h
 cases e with
 | normal=>exact he
 | _=>exact he
theorem e_kw {y:Code} (h:awp P V k0 y Q fr σ):seqQ (kw P V k0 y Q) Q .normal fr σ:=⟨fr,σ,Weak.refl _ _ _,h⟩
theorem cl_kw {y:Code}{Q':Exit→Fr→St→Prop}:Closed k0 (seqQ (kw P V k0 y Q) Q'):=fun fr σ fr' σ' hw ⟨fr2,σ2,hw2,h⟩=>⟨fr2,σ2,hw.trans hw2,h⟩
theorem w_jtail {x:Code}{J:Type} (hQ:Closed k0 Q) (C:J→Prop) (F:J→Fr) (G:J→St) (h:awp P V k0 x (seqQ (fun fr σ=>∃ j,C j∧Weak k0 fr σ (F j) (G j)) Q) fr σ) (h2:∀ j,C j→Q .normal (F j) (G j)):awp P V k0 x Q fr σ :=
 awp_mono x (fun e fr σ he=>by
  cases e with
  | normal=>obtain ⟨j,h1,h3⟩:=he;exact hQ _ _ _ _ h3 (h2 j h1)
  | _=>exact he) h
theorem e_j {J:Type}{C:J→Prop}{F:J→Fr}{G:J→St} (j:J) (h:C j) (hw:Weak k0 fr σ (F j) (G j)):seqQ (fun fr σ=>∃ j,C j∧Weak k0 fr σ (F j) (G j)) Q .normal fr σ:=⟨j,h,hw⟩
end
def rowI (k:IntKind) (n:Int):List PV:=[.int k n]
def rowS (s:List UInt8):List PV:=[.str s]
theorem arow_nil {α:Type}{row:α→List PV}:([]:List (List PV))=([]:List α).map row:=rfl
theorem arow_cons {α:Type}{row:α→List PV}{p:List PV}{ps:List (List PV)}{x:α}{xs:List α} (h:row x=p) (t:ps=xs.map row):p :: ps=(x :: xs).map row:=by simp [h,t]
end Go.Proofs.YtmbdbdhdcbdcpaaGreatDoor.Abs
namespace Go.Proofs.YtmbdbdhdcbdcpaaGreatDoor.Abs
open Go
set_option linter.unusedVariables false
set_option linter.unusedSimpArgs false
variable {mo:Bool}
theorem St.dem_upd (f:Nat→Bool) (σ:St) (d:Nat):σ.after [] d []=σ.dem fun t=>t / 16==d:=by simp [St.after,St.upd,endF_nil]
section
variable {P:Program}{all r:List Oper}{d:Nat}{op:Op}{ty:TypeId}{pos:String}{af:Array Edge}{fr:Fr}{σ:St}{K:Fr→St→Prop}{v:AV}
theorem o_v (hv:Ov P ⟨some d,op,ty,pos,af,none⟩ fr σ v) (h:aops mo P all r ((d,v) :: fr) σ K):aops mo P all (⟨some d,op,ty,pos,af,none⟩ :: r) fr σ K:=by
 refine aops_none ?_
 exact hv _ h
theorem ov_call {gd:Option (Nat × Bool)}{fo:Operand}{args:Array Operand}{ts:Array TypeId}{f:FuncId}{caps as:List AV}{rv:AV} (hf:fr.ev fo=.fn f caps) (hc:ACalls P f as [] rv []) (ha:leP (AV.lowL [] (args.toList.map fr.ev++caps)) as)
  (hfr:(fr.dem fun t=>t / 16==d)=fr) (hσ:(σ.dem fun t=>t / 16==d)=σ) (hv:rv.lift [] σ.length d=v) :
  Ov P ⟨some d,.call { callee:=.value fo,args:=args,argTypes:=ts },ty,pos,af,gd⟩ fr σ v:=fun K hk=>by
 unfold aop
 simp only [hf,acall]
 refine ⟨d,[],[],as,[],rv,[],.nil,.nil,by simp,leL_of ha,by simp [St.sub];exact .nil,hc,?_⟩
 simp only [Option.getD_some,endF_nil,hfr,hv,St.dem_upd (fun _=>true),hσ]
 exact hk
end
theorem o_nilc {α:Type}{P:Program}{all r:List Oper}{d:Nat}{ty t t2:TypeId}{pos:String}{af:Array Edge}{fr:Fr}{σ:St}{K:Fr→St→Prop}{sz:Nat}{row:α→List PV}{xs:List α}{x:Operand} (ht:tyIs P t=3) (hx:isl (fr.ev x) sz row xs)
  (h:∀ b:Bool,(b=true→xs=[])→aops mo P all r ((d,.c (.bool b)) :: fr) σ K):aops mo P all (⟨some d,.binOp .eql t x (.const (.slice .none 0 0)) t2,ty,pos,af,none⟩ :: r) fr σ K:=by
 refine aops_none ?_
 have hk:∀ b:Bool,(b=true→xs.map row=[])→aops mo P all r ((d,.c (.bool (b != false))) :: fr) σ K:=fun b hb=>by
  have:=h b (fun e=>by simpa using hb e)
  simpa using this
 have hn:fr.ev (.const (.slice .none 0 0))=.nil:=rfl
 rcases hx with hx | ⟨t0,hx⟩ <;> simp only [aop,isNilCmp,anil,hx,hn,PV.ls,AV.os] <;> exact ⟨ht,hk⟩
theorem brow_of {n:Int}{x:UInt8} (h:byteOf n=some x):brow x=[.int .u8 n]:=by rw [byteOf_some h];rfl
theorem st_r {cs bs:List AV}{σ σ':St} (h:cs=bs) (t:leS σ σ'):leS (cs :: σ) (bs :: σ'):=by subst h;exact .cons (AV.leL_refl _) t
section
variable {k0:Nat}{Q:Exit→Fr→St→Prop}{fr:Fr}{σ:St}
theorem e_l {S R:Type}{st:Step S R}{F:S→Fr}{G:S→St} (s:S) (h:st=.next s) (hw:Weak k0 fr σ (F s) (G s)):seqQ (fun fr σ=>∃ s',st=.next s'∧Weak k0 fr σ (F s') (G s')) Q .normal fr σ:=⟨s,h,hw⟩
end
theorem le_gv {x v w:AV}{ids:List Nat} (h:x=v) (hl:(v.low ids).le w):(x.low ids).le w:=by rw [h];exact hl
theorem p_k {P:Program}{o:Oper}{ev:Operand→AV}{σ:St}{p q:PV} (h:Pv P o ev σ (.c p)) (he:p=q):Pv P o ev σ (.c q):=he ▸ h
def frOk (f:Nat→Bool):Fr→Prop
 | []=>True
 | (_,a) :: r=>AV.dem f a=a∧frOk f r
theorem ok_nil {f:Nat→Bool}:frOk f []:=trivial
theorem ok_cons {f:Nat→Bool}{i:Nat}{a:AV}{r:Fr} (h:AV.dem f a=a) (t:frOk f r):frOk f ((i,a) :: r):=⟨h,t⟩
theorem dgv {f:Nat→Bool}{c:Bool}{v:AV} (h:AV.dem f v=v):AV.dem f (gv c v)=gv c v:=by
 cases c
 ·
  rfl
 ·
  exact h
theorem ok_eq {f:Nat→Bool}:∀ {fr:Fr},frOk f fr→Fr.dem f fr=fr
 | [],_=>rfl
 | (i,a) :: r,h=>by simp only [Fr.dem,h.1,ok_eq h.2]
end Go.Proofs.YtmbdbdhdcbdcpaaGreatDoor.Abs
namespace Go.Proofs.YtmbdbdhdcbdcpaaGreatDoor.Abs
open Go
set_option linter.unusedVariables false
set_option linter.unusedSimpArgs false
section
variable {P:Program}{ops:Array Oper}{r:List PI}{i:Nat}{rl:List Nat}{d dj j:Nat}{op:Op}{ty:TypeId}{pos:String}{af:Array Edge}{fr:Fr}{σ:St}{K:Fr→St→Prop}{v:AV}{b c w:Bool}
theorem aq_of {o:Oper} (h:Qv P o fr σ v):AQ P o fr.ev σ v:=by
 obtain ⟨u,h1,h2⟩:=aqop_sound (h (fun x=>x=v) rfl)
 rw [← h2];exact h1
theorem d_end {fr':Fr}{V:List Nat}{Q:Exit→Fr→St→Prop} (hp:prune V fr=fr') (h:Q .normal fr' σ):ad P ops [] fr σ fun fr σ=>hold (Q .normal (prune V fr) σ):=by
 subst hp;exact h
theorem d_q (ho:ops[i]?=some ⟨some d,op,ty,pos,af,none⟩) (hv:Qv P ⟨some d,op,ty,pos,af,none⟩ fr σ v) (h:ad P ops r ((d,v) :: fr) σ K):ad P ops (.q i :: r) fr σ K:=by
 simp only [ad,ho,aguard]
 exact ⟨v,aq_of hv,h⟩
theorem d_g (ho:ops[i]?=some ⟨some d,op,ty,pos,af,some (j,w)⟩) (hj:gslot ops.toList j=some dj) (hs:fr.get dj=.c (.bool b)) (hv:(b==w)=true→Qv P ⟨some d,op,ty,pos,af,some (j,w)⟩ fr σ v) (h:ad P ops r ((d,gv (b==w) v) :: fr) σ K):ad P ops (.q i :: r) fr σ K:=by
 simp only [ad,ho]
 refine ag_c rfl hj hs (fun e=>?_) (fun e=>?_)
 ·
  have e':(b==w)=true:=by simp [e]
  refine ⟨v,aq_of (hv e'),?_⟩
  rw [e',gv,if_pos rfl] at h
  exact h
 ·
  have e':(b==w)=false:=by simpa using e
  rw [e',gv,if_neg (by simp)] at h
  exact h
theorem d_gg (ho:ops[i]?=some ⟨some d,op,ty,pos,af,some (j,w)⟩) (hj:gslot ops.toList j=some dj) (hs:fr.get dj=gv c (.c (.bool b))) (hv:(c&&(b==w))=true→Qv P ⟨some d,op,ty,pos,af,some (j,w)⟩ fr σ v) (h:ad P ops r ((d,gv (c&&(b==w)) v) :: fr) σ K):ad P ops (.q i :: r) fr σ K:=by
 cases c with
 | true =>
  rw [Bool.true_and] at h hv
  exact d_g ho hj (by rw [hs,gv,if_pos rfl]) hv h
 | false =>
  rw [gv,if_neg (by simp)] at hs
  rw [Bool.false_and,gv,if_neg (by simp)] at h
  simp only [ad,ho]
  exact ag_t rfl hj hs h
theorem d_n {o:Oper} (ho:ops[i]?=some o) (h:aops false P ops.toList [o] fr σ fun fr' σ'=>RC P ops σ' fr' rl∧ad P ops r fr' σ' K) (hg:o.guard=none):ad P ops (.n i rl :: r) fr σ K:=by
 obtain ⟨dst,op,ty,pos,af,guard⟩:=o
 cases hg
 simp only [ad,ho,aguard]
 exact h
theorem o_rc {all:List Oper} (h:K fr σ):aops false P all [] fr σ K:=h
theorem rc_nil:RC P ops σ fr []:=trivial
theorem rc_q {q:Nat} (ho:ops[q]?=some ⟨some d,op,ty,pos,af,none⟩) (hd:fr.get d=v) (hv:Qv P ⟨some d,op,ty,pos,af,none⟩ fr σ v) (t:RC P ops σ fr rl):RC P ops σ fr (q :: rl):=by
 refine ⟨⟨_,d,ho,rfl,?_⟩,t⟩
 rw [hd]
 show AQ P _ _ σ v
 rw [evF_get]
 exact aq_of hv
end
def stepM (acc:List Nat) (o:Oper):Nat:=o.after.toList.foldl (fun m e=>if Region.binds .any e then m ||| (1 <<< e.on) ||| acc.getD e.on 0 else m) 0
def masks:List Oper→List Nat→List Nat
 | [],acc=>acc
 | o :: r,acc=>masks r (acc++[stepM acc o])
theorem foldl_bits {acc:List Nat}:∀ (l:List Edge) (m j:Nat),(l.foldl (fun m e=>if Region.binds .any e then m ||| (1 <<< e.on) ||| acc.getD e.on 0 else m) m).testBit j=true→m.testBit j=true∨∃ e∈l,Region.binds .any e=true∧(e.on=j∨(acc.getD e.on 0).testBit j=true)
 | [],m,j,h=>.inl h
 | e :: l,m,j,h=>by
  simp only [List.foldl_cons] at h
  rcases foldl_bits l _ j h with h1 | ⟨e',he',h1⟩
  ·
   cases hb:Region.binds .any e with
   | false=>rw [hb] at h1;simp at h1;exact .inl h1
   | true =>
    rw [hb,if_pos rfl,Nat.testBit_or,Nat.testBit_or,Bool.or_eq_true,Bool.or_eq_true] at h1
    rcases h1 with (h1 | h1) | h1
    ·
     exact .inl h1
    ·
     refine .inr ⟨e,by simp,hb,.inl ?_⟩
     rw [Nat.one_shiftLeft,Nat.testBit_two_pow] at h1
     simpa using h1
    ·
     exact .inr ⟨e,by simp,hb,.inr h1⟩
  ·
   exact .inr ⟨e',List.mem_cons_of_mem _ he',h1⟩
theorem masks_get:∀ (l:List Oper) (acc:List Nat) (i:Nat),i<acc.length→(masks l acc).getD i 0=acc.getD i 0
 | [],acc,i,h=>rfl
 | o :: r,acc,i,h=>by
  simp only [masks]
  rw [masks_get r _ i (by simp;omega)]
  rw [List.getD_eq_getElem?_getD,List.getD_eq_getElem?_getD,List.getElem?_append_left h]
theorem masks_at:∀ (l:List Oper) (acc:List Nat) (k:Nat) (o:Oper),l[k]?=some o→∃ acc',acc'.length=acc.length+k∧(∀ i,i<acc'.length→acc'.getD i 0=(masks l acc).getD i 0)∧(masks l acc).getD (acc.length+k) 0=stepM acc' o
 | [],acc,k,o,h=>by simp at h
 | x :: r,acc,0,o,h=>by
  simp at h;subst h
  refine ⟨acc,rfl,fun i hi=>?_,?_⟩
  ·
   simp only [masks]
   rw [masks_get r _ i (by simp;omega),List.getD_eq_getElem?_getD,List.getD_eq_getElem?_getD,List.getElem?_append_left hi]
  ·
   simp only [masks,Nat.add_zero]
   rw [masks_get r _ _ (by simp)]
   simp [List.getD_eq_getElem?_getD]
 | x :: r,acc,k+1,o,h=>by
  simp at h
  obtain ⟨acc',h1,h2,h3⟩:=masks_at r (acc++[stepM acc x]) k o h
  refine ⟨acc',by rw [h1];simp;omega,h2,?_⟩
  rw [← h3]
  simp only [masks]
  congr 1
  simp;omega
theorem mask_waits {ops:Array Oper} (hord:∀ i,i<ops.size→∃ o,ops[i]?=some o∧∀ e∈o.after,Region.binds .any e=true→e.on<i):∀ (n i j:Nat),i<n→i<ops.size→((masks ops.toList []).getD i 0).testBit j=true→waitsB ops n j i=true
 | 0,i,j,h,_,_=>by omega
 | n+1,i,j,h,hi,hb=>by
  obtain ⟨o,ho,hlt⟩:=hord i hi
  obtain ⟨acc',h1,h2,h3⟩:=masks_at ops.toList [] i o (by rw [Array.getElem?_toList];exact ho)
  simp only [List.length_nil,Nat.zero_add] at h1 h3
  rw [h3] at hb
  rcases foldl_bits o.after.toList 0 j hb with h4 | ⟨e,he,hbe,h4⟩
  ·
   simp at h4
  ·
   have he':e∈o.after:=by simpa using he
   have hel:=hlt e he' hbe
   simp only [waitsB,ho]
   refine Array.any_eq_true'.2 ⟨e,he',?_⟩
   simp only [hbe,Bool.true_and,Bool.or_eq_true,beq_iff_eq]
   rcases h4 with h4 | h4
   ·
    exact .inl h4
   ·
    rw [h2 e.on (by omega)] at h4
    exact .inr (mask_waits hord n e.on j (by omega) (by omega) h4)
abbrev Tab:=List (Option Nat × List Nat)
def tabOf (ops:Array Oper):Tab:=ops.toList.map fun o=>(o.dst,o.looksAt ops)
def apartT (tab:Tab) (i j:Nat):Bool:=match tab[i]?,tab[j]? with
 | some (d,_),some (dj,lj)=>(match d with | some d=>!lj.contains d&&(i==j||dj != some d) | _=>true)
 | _,_=>false
def needT (tab:Tab) (j i:Nat):Bool:=match tab[j]?,tab[i]? with
 | some (dj,_),some (_,li)=>(match dj with | some d=>li.contains d | _=>false)
 | _,_=>true
def bitM (ms:List Nat) (j i:Nat):Bool:=(ms.getD i 0).testBit j
def okT (tab:Tab) (ms:List Nat):List PI→List Nat→Bool
 | [],_=>true
 | it :: r,done =>
  decide (it.ix<tab.length)&&!done.contains it.ix&&(done.all fun j=>!needT tab j it.ix||bitM ms j it.ix) &&
  (match it with
   | .q i=>(match tab[i]? with | some (some _,_)=>true | _=>false)&&apartT tab i i&&(done.all fun j=>apartT tab i j)
   | .n i rl=>(done.all fun j=>apartT tab i j||bitM ms j i)&&(r.all fun x=>bitM ms i x.ix)&&(done.all fun j=>rl.contains j||bitM ms j i)) &&
  okT tab ms r (it.ix :: done)
def ordT:Nat→List Oper→Bool
 | _,[]=>true
 | i,o :: r=>(o.after.toList.all fun e=>!Region.binds .any e||Nat.blt e.on i)&&ordT (i+1) r
def planT (ops:Array Oper) (pl:List PI) (tab:Tab) (ms:List Nat):Bool :=
 decide (tabOf ops=tab)&&decide (masks ops.toList []=ms)&&ordT 0 ops.toList&&okT tab ms pl []&&((List.range tab.length).all fun i=>pl.any fun x=>x.ix==i)
theorem ordT_get:∀ (l:List Oper) (k i:Nat) (o:Oper),ordT k l=true→l[i]?=some o→∀ e∈o.after,Region.binds .any e=true→e.on<k+i
 | [],k,i,o,_,h=>by simp at h
 | x :: r,k,0,o,h,ho=>by
  simp at ho;subst ho
  simp only [ordT,Bool.and_eq_true] at h
  intro e he hb
  have:=List.all_eq_true.1 h.1 e (by simpa using he)
  simp only [hb,Bool.not_true,Bool.false_or] at this
  exact blt_lt this
 | x :: r,k,i+1,o,h,ho=>by
  simp at ho
  simp only [ordT,Bool.and_eq_true] at h
  intro e he hb
  have:=ordT_get r (k+1) i o h.2 ho e he hb
  omega
theorem tab_get (ops:Array Oper) (i:Nat):(tabOf ops)[i]?=(ops[i]?).map fun o=>(o.dst,o.looksAt ops):=by
 unfold tabOf
 rw [List.getElem?_map,Array.getElem?_toList]
theorem apart_T {ops:Array Oper}{i j:Nat}:apartT (tabOf ops) i j=apartB ops i j:=by
 unfold apartT apartB
 rw [tab_get,tab_get]
 cases ops[i]? <;> cases ops[j]? <;> rfl
theorem need_T {ops:Array Oper}{i j:Nat}:needT (tabOf ops) j i=needB ops j i:=by
 unfold needT needB
 rw [tab_get,tab_get]
 cases ops[i]? <;> cases ops[j]? <;> rfl
theorem all_imp {α:Type}{l:List α}{p q:α→Bool} (h:∀ x∈l,p x=true→q x=true) (hp:l.all p=true):l.all q=true:=List.all_eq_true.2 fun x hx=>h x hx (List.all_eq_true.1 hp x hx)
theorem okT_okL {ops:Array Oper}{ms:List Nat} (hw:∀ i j,i<ops.size→bitM ms j i=true→waitsB ops ops.size j i=true):∀ (pl:List PI) (done:List Nat),okT (tabOf ops) ms pl done=true→okL ops pl done=true
 | [],_,_=>rfl
 | it :: r,done,h=>by
  simp only [okT,Bool.and_eq_true] at h
  obtain ⟨⟨⟨⟨h1,h2⟩,h3⟩,h4⟩,h5⟩:=h
  have hlt:it.ix<ops.size:=by have:=of_decide_eq_true h1;simpa [tabOf] using this
  have hi:∀ {j:Nat},bitM ms j it.ix=true→waitsB ops ops.size j it.ix=true:=fun hb=>hw _ _ hlt hb
  simp only [okL,Bool.and_eq_true]
  refine ⟨⟨⟨⟨decide_eq_true hlt,h2⟩,all_imp (fun j _ h=>?_) h3⟩,?_⟩,okT_okL hw r _ h5⟩
  ·
   rw [need_T,Bool.or_eq_true] at h
   rw [Bool.or_eq_true]
   exact h.imp id hi
  ·
   cases it with
   | q i =>
    simp only [Bool.and_eq_true] at h4 ⊢
    refine ⟨⟨?_,by rw [← apart_T];exact h4.1.2⟩,all_imp (fun j _ h=>by rw [← apart_T];exact h) h4.2⟩
    have h6:=h4.1.1
    rw [tab_get] at h6
    cases ho:ops[i]? with
    | none=>rw [ho] at h6;cases h6
    | some o =>
     rw [ho] at h6
     simp only [Option.map_some] at h6
     split at h6
     ·
      rename_i d l he;simp only [Option.some.injEq,Prod.mk.injEq] at he;simp [he.1]
     ·
      cases h6
   | n i rl =>
    have hi:∀ {j:Nat},bitM ms j i=true→waitsB ops ops.size j i=true:=hi
    simp only [Bool.and_eq_true] at h4 ⊢
    refine ⟨⟨all_imp (fun j _ h=>?_) h4.1.1,all_imp (fun x hx h=>?_) h4.1.2⟩,all_imp (fun j _ h=>?_) h4.2⟩
    ·
     rw [apart_T,Bool.or_eq_true] at h
     rw [Bool.or_eq_true]
     exact h.imp id hi
    ·
     by_cases hx2:x.ix<ops.size
     ·
      exact hw _ _ hx2 h
     ·
      exfalso
      have key:∀ (l:List PI) (dn:List Nat),okT (tabOf ops) ms l dn=true→∀ y∈l,y.ix<ops.size:=by
       intro l
       induction l with
       | nil=>intro dn _ y hy;cases hy
       | cons z l ihl =>
        intro dn hz y hy
        simp only [okT,Bool.and_eq_true] at hz
        rcases List.mem_cons.1 hy with rfl | hy
        ·
         have:=of_decide_eq_true hz.1.1.1.1;simpa [tabOf] using this
        ·
         exact ihl _ hz.2 y hy
      exact hx2 (key r _ h5 x hx)
    ·
     rw [Bool.or_eq_true] at h ⊢
     exact h.imp id hi
theorem planT_ok {ops:Array Oper}{pl:List PI}{tab:Tab}{ms:List Nat} (h:planT ops pl tab ms=true):planOk ops pl=true:=by
 simp only [planT,Bool.and_eq_true] at h
 obtain ⟨⟨⟨⟨h1,h2⟩,h3⟩,h4⟩,h5⟩:=h
 have h1:=of_decide_eq_true h1
 have h2:=of_decide_eq_true h2
 subst h1 h2
 have hord:∀ i,i<ops.size→∃ o,ops[i]?=some o∧∀ e∈o.after,Region.binds .any e=true→e.on<i:=fun i hi=>by
  refine ⟨_,Array.getElem?_eq_getElem hi,fun e he hb=>?_⟩
  have:=ordT_get ops.toList 0 i _ h3 (by rw [Array.getElem?_toList];exact Array.getElem?_eq_getElem hi) e he hb
  omega
 simp only [planOk,Bool.and_eq_true]
 refine ⟨⟨okT_okL (fun i j hi hb=>mask_waits hord ops.size i j hi hi hb) pl [] h4,by simpa [tabOf] using h5⟩,List.all_eq_true.2 fun i hi=>?_⟩
 obtain ⟨o,ho,hlt⟩:=hord i (List.mem_range.1 hi)
 rw [ho]
 refine Array.all_eq_true'.2 fun e he=>?_
 cases hb:Region.binds .any e with
 | false=>rfl
 | true=>simp [hlt e he hb]
theorem w_planT {P:Program}{V:List Nat}{k0:Nat}{Q:Exit→Fr→St→Prop}{fr:Fr}{σ:St} (pl:List PI) (tab:Tab) (ms:List Nat) {id:Nat}{l:List Oper} (hB:planT l.toArray pl tab ms=true) (h:ad P l.toArray pl fr σ fun fr σ=>hold (Q .normal (prune V fr) σ)):awp P V k0 (.region id l.toArray true) Q fr σ :=
 w_plan pl (planT_ok hB) h
end Go.Proofs.YtmbdbdhdcbdcpaaGreatDoor.Abs
namespace Go.Proofs.YtmbdbdhdcbdcpaaGreatDoor.Abs
open Go
set_option linter.unusedVariables false
set_option linter.unusedSimpArgs false
def tyFs (P:Program) (t:TypeId):Option (List TypeId):=match P.underlying t with | some (.struct fs)=>some (fs.toList.map (·.type)) | _=>none
def tySl (P:Program) (t:TypeId):Option (TypeId × Nat):=match P.underlying t with | some (.slice e)=>some (e,P.cellsOf e) | _=>none
def okI (x:Int):Prop:=-9223372036854775808≤x∧x≤9223372036854775807
def okW (k:IntKind) (x:Int):Prop:=(Lit.int k x).wf=true
def okS (s:List UInt8):Prop:=s.length≤140737488351232
def okLs {α:Type} (k:Nat) (ok:α→Prop) (xs:List α):Prop:=xs.length≤9223372036854775807∧xs.length*k≤140737488351232∧∀ x∈xs,ok x
section
variable {P:Program}{n:Nat}{t e:TypeId}{ps:List PV}
theorem sh_int {k:IntKind} (h:tyInt P t=some k) (hs:Shaped P n t ps):∃ x,ps=[.int k x]∧okW k x:=by
 cases n with
 | zero=>exact hs.elim
 | succ n =>
  have hu:=tyInt_spec h
  simp only [Shaped,hu] at hs
  exact hs
theorem wf64 {x:Int} (h:okW .i64 x):okI x:=by
 unfold okW Lit.wf at h
 unfold okI
 simp only [Bool.and_eq_true,decide_eq_true_eq] at h
 exact ⟨h.1,h.2⟩
theorem sh_i64 (h:tyInt P t=some .i64) (hs:Shaped P n t ps):∃ x,ps=[.int .i64 x]∧okI x:=by
 obtain ⟨x,h1,h2⟩:=sh_int h hs
 exact ⟨x,h1,wf64 h2⟩
theorem sh_str (h:tyIs P t=2) (hs:Shaped P n t ps):∃ x,ps=[.str x]∧okS x:=by
 cases n with
 | zero=>exact hs.elim
 | succ n =>
  have hu:=tyIs2 h
  simp only [Shaped,hu] at hs
  exact hs
theorem list_of {α:Type}{row:α→List PV}{ok:α→Prop}:∀ (xs:List (List PV)),(∀ x∈xs,∃ a,x=row a∧ok a)→∃ as:List α,xs=as.map row∧∀ a∈as,ok a
 | [],_=>⟨[],rfl,by simp⟩
 | x :: xs,h=>by
  obtain ⟨a,rfl,ha⟩:=h x (by simp)
  obtain ⟨as,rfl,has⟩:=list_of xs (fun y hy=>h y (by simp [hy]))
  exact ⟨a :: as,rfl,by simpa using ⟨ha,has⟩⟩
theorem sh_sl {α:Type}{sz k:Nat}{row:α→List PV}{ok:α→Prop} (h:tySl P t=some (e,sz)) (hk:P.bytesOf e=k) (hs:Shaped P n t ps) (conv:∀ m,m<n→∀ qs,Shaped P m e qs→∃ a:α,qs=row a∧ok a):∃ xs:List α,ps=[PV.ls sz row xs]∧okLs k ok xs:=by
 cases n with
 | zero=>exact hs.elim
 | succ n =>
  unfold tySl at h
  cases hu:P.underlying t with
  | none=>simp [hu] at h
  | some d =>
   cases d <;> simp [hu] at h
   rename_i e'
   obtain ⟨rfl,rfl⟩:=h
   simp only [Shaped,hu] at hs
   obtain ⟨xs,rfl,hx,hl,hl2⟩:=hs
   rw [hk] at hl2
   obtain ⟨as,rfl,has⟩:=list_of (row:=row) (ok:=ok) xs (fun x hxm=>conv n (by omega) x (hx x hxm))
   exact ⟨as,rfl,by simpa using hl,by simpa using hl2,has⟩
theorem sh_st {l:List TypeId} (h:tyFs P t=some l) (hs:Shaped P n t ps):∃ m,m<n∧ShapedF (Shaped P m) l ps:=by
 cases n with
 | zero=>exact hs.elim
 | succ n =>
  unfold tyFs at h
  cases hu:P.underlying t with
  | none=>simp [hu] at h
  | some d =>
   cases d <;> simp [hu] at h
   subst h
   simp only [Shaped,hu] at hs
   exact ⟨n,by omega,by simpa using hs⟩
end
end Go.Proofs.YtmbdbdhdcbdcpaaGreatDoor.Abs
namespace Go.Proofs.YtmbdbdhdcbdcpaaGreatDoor.Abs
open Go
set_option linter.unusedVariables false
set_option linter.unusedSimpArgs false
def AV.ar {α:Type} (row:α→List PV) (xs:List α):AV:=.agg (AV.cs ((xs.map row).flatten))
theorem demL_cs (f:Nat→Bool) (l:List PV):AV.demL f (AV.cs l)=AV.cs l:=by rw [AV.demL_eq];simp [AV.cs,AV.dem]
theorem dar {α:Type}{row:α→List PV}{xs:List α}{f:Nat→Bool}:(AV.ar row xs).dem f=AV.ar row xs:=by simp only [AV.ar,AV.dem,demL_cs]
section
variable {P:Program}{d:Option Tmp}{ty:TypeId}{pos:String}{af:Array Edge}{gd:Option (Nat × Bool)}{ev:Operand→AV}{σ:St}{x y z:Operand}{t t2:TypeId}{k k':IntKind}{a b:Int}{v:AV}
theorem p_aeql {as bs:List AV}{ks:List Nat}{n:Nat}{r:Bool} (hk:eqK P 40 t=some ks) (ht:tyVar P t=some (true,n)) (hg:P.eqGuardType P.depth t=false) (hx:ev x=.agg as) (hy:ev y=.agg bs) (hn:ks.length=n) (hr:aeqK ks as bs=some r) :
 Pv P ⟨d,.binOp .eql t x y t2,ty,pos,af,gd⟩ ev σ (.c (.bool r)):=fun K h=>.inr (.inl ⟨_,⟨as,bs,ks,r,hx,hy,hk,by rw [hn];exact ht,hg,hr,.inl ⟨rfl,rfl⟩⟩,h⟩)
end
end Go.Proofs.YtmbdbdhdcbdcpaaGreatDoor.Abs
namespace Go.Proofs.YtmbdbdhdcbdcpaaGreatDoor.Abs
open Go
set_option linter.unusedVariables false
set_option linter.unusedSimpArgs false
variable {mo:Bool}
def AV.ms {α:Type} (t sz:Nat) (row:α→List PV) (xs:List α):AV:=.mrow t sz (xs.map row)
abbrev aM {α:Type}{t sz:Nat}{row:α→List PV}{xs:List α}:AV:=AV.ms t sz row xs
theorem le_nms {α:Type}{t sz:Nat}{row:α→List PV} (h:Nat.blt 0 sz=true):AV.nil.le (.ms t sz row []):=fun g w v hv=>by
 cases hv
 exact .mrow t sz [] ⟨blt_lt h,by simp,0,[],World.ownsRow_nil w 0 0 sz,by simp,by simp [Value.ownBlock]⟩
mutual
def AV.putM (t sz:Nat) (ys:List (List PV)):AV→AV
 | .mrow t' sz' xs=>if t'==t then (if sz'==sz then .mrow t' sz' ys else .any) else .mrow t' sz' xs
 | .mptr t' sz' j off r=>if t'==t then .any else .mptr t' sz' j off r
 | .own t' sz' xs=>if t'==t then .any else .own t' sz' xs
 | .agg cs=>.agg (AV.putML t sz ys cs)
 | .tup cs=>.tup (AV.putML t sz ys cs)
 | .fn f cs=>.fn f (AV.putML t sz ys cs)
 | a=>a
def AV.putML (t sz:Nat) (ys:List (List PV)):List AV→List AV
 | []=>[]
 | a :: as=>AV.putM t sz ys a :: AV.putML t sz ys as
end
def Fr.putM (t sz:Nat) (ys:List (List PV)):Fr→Fr
 | []=>[]
 | (d,a) :: r=>(d,a.putM t sz ys) :: Fr.putM t sz ys r
def St.putM (t sz:Nat) (ys:List (List PV)):St→St
 | []=>[]
 | cs :: r=>AV.putML t sz ys cs :: St.putM t sz ys r
def Fr.hasM (fr:Fr) (t sz i:Nat) (row:List PV):List (Nat × Nat)→Prop
 | []=>True
 | (d,off) :: D=>fr.get d=.mptr t sz i off row∧Fr.hasM fr t sz i row D
def Fr.addM (t sz i:Nat) (row:List PV) (base:Fr):List (Nat × Nat)→Fr
 | []=>base
 | (d,off) :: D=>(d,.mptr t sz i off row) :: Fr.addM t sz i row base D
theorem keepM_of {fr:Fr}{t sz i:Nat}{row row':List PV}:∀ {D:List (Nat × Nat)},fr.hasM t sz i row D→Fr.keepM fr t sz i row row' D (Fr.addM t sz i row' (fr.setM t sz i row') D)
 | [],_=>rfl
 | (d,off) :: D,h=>⟨h.1,_,rfl,keepM_of h.2⟩
section
variable {P:Program}{d:Option Tmp}{ty:TypeId}{pos:String}{af:Array Edge}{gd:Option (Nat × Bool)}{ev:Operand→AV}{σ:St}{x y z:Operand}{t t2:TypeId}{k k':IntKind}{v:AV}
theorem p_lenm {α:Type}{t0 sz:Nat}{row:α→List PV}{xs:List α} (ht:tyIs P t=3) (hx:ev x=AV.ms t0 sz row xs):Pv P ⟨d,.call { callee:=.builtin .len,args:=#[x],argTypes:=#[t] },ty,pos,af,gd⟩ ev σ (.c (.int .i64 xs.length)):=fun K h =>
 .inr (.inr (.inl ⟨_,⟨x,t,xs.length,rfl,rfl,ht,rfl,.inr ⟨t0,sz,xs.map row,hx,by simp⟩⟩,h⟩))
theorem p_iam {α:Type}{e:TypeId}{sz by_ t0:Nat}{row:α→List PV}{xs:List α}{i:Int}{u:α}{cs:List PV} (ht:tySlice P t=some (e,sz,by_)) (hx:ev x=AV.ms t0 sz row xs) (hy:ev y=.c (.int k i)) (hg:idx xs i=some u) (he:row u=cs) :
  Pv P ⟨d,.indexAddr t x y,ty,pos,af,gd⟩ ev σ (.mptr t0 sz i.toNat 0 cs):=fun K h=>by
 obtain ⟨h0,h1,h2⟩:=idx_some hg
 exact .inr (.inr (.inl ⟨_,⟨e,sz,by_,k,i,ht,hy,h0,.inr ⟨t0,_,cs,hx,by rw [List.getElem?_map,h2,← he];rfl,rfl⟩⟩,h⟩))
theorem p_loadms {n t0 sz i off:Nat}{cs us:List PV} (ht:tyVar P t=some (true,n)) (hx:ev x=.mptr t0 sz i off cs) (hn:Nat.ble (off+n) cs.length=true) (hc:(cs.drop off).take n=us):Pv P ⟨d,.load t x,ty,pos,af,gd⟩ ev σ (.agg (AV.cs us)):=fun K h =>
 .inr (.inr (.inl ⟨_,⟨true,n,t0,sz,i,off,cs,ht,hx,.inl ⟨rfl,ble_le hn,by rw [hc];rfl⟩⟩,h⟩))
end
section
variable {P:Program}{all r:List Oper}{d:Nat}{ty:TypeId}{pos:String}{af:Array Edge}{fr:Fr}{σ:St}{K:Fr→St→Prop}{v:AV}
theorem aopg {o:Oper}{dm:Option (Nat→Bool)}{v:AV}{σ':St} (hp:plainOp o=true) (h:axg P o fr.ev σ dm v σ') (hk:K ((fr.demo dm).put o.dst v) σ'):aop P o fr σ K:=aop_plain hp (.inr (.inr (.inr ⟨dm,v,σ',h,hk⟩)))
theorem o_appm {α:Type}{s x:Operand}{t tx e:TypeId}{sz by_ t0:Nat}{row:α→List PV}{ys zs:List α} (ht:tySlice P t=some (e,sz,by_)) (hb:Nat.blt 0 by_=true) (htx:tyIs P tx=3) (hs:fr.ev s=.os t0 sz row ([]:List α)) (hx:isl (fr.ev x) sz row ys) (hy:∀ u,(row u).length=sz) (hz:app by_ ([]:List α) ys=some zs)
  (h:aops mo P all r ((d,.ms (16*d) sz row zs) :: fr.dem (demF d t0)) (σ.dem (demF d t0)) K):aops mo P all (⟨some d,.call { callee:=.builtin .append,args:=#[s,x],argTypes:=#[t,tx] },ty,pos,af,none⟩ :: r) fr σ K:=by
 obtain ⟨hm,hzz⟩:=app_some hz
 rw [List.nil_append] at hzz
 subst hzz
 have hx':fr.ev x=.c (.list sz (zs.map row))∨(∃ t0,fr.ev x=.own t0 sz (zs.map row))∨(∃ t0,fr.ev x=.mrow t0 sz (zs.map row))∨(fr.ev x=.nil∧zs.map row=[])∨∃ id off m cs,fr.ev x=.view id off m∧σ[id]?=some cs∧(zs.map row).length=m∧(cs.drop off).take (m*sz)=(zs.map row).flatten.map AV.c:=by
  rcases hx with hx | ⟨t1,hx⟩
  ·
   exact .inl hx
  ·
   exact .inr (.inl ⟨t1,hx⟩)
 refine aops_none (aopg rfl ⟨s,x,t,tx,e,sz,by_,demF d t0,[],zs.map row,rfl,rfl,ht,blt_lt hb,htx,rfl,by simp [hy],by simpa using hm,by simp [demF,freshOf_tok],rfl,rfl,hx',.inr ⟨.inr (.inl ⟨t0,by simp [demF],hs,rfl⟩),rfl⟩⟩ ?_)
 have e1:AV.mrow (tokOf (some d)) sz ([]++zs.map row)=AV.ms (16*d) sz row zs:=by simp [AV.ms,tokOf]
 simp only [e1]
 exact h
theorem o_mst {α:Type}{t:TypeId}{x y:Operand}{ag:Bool}{n t0 sz i off:Nat}{cs vs:List PV}{row:α→List PV}{xs:List α}{u:α} (hs:List Nat) (D:List (Nat × Nat)) (ht:tyVar P t=some (ag,n)) (hx:fr.ev x=.mptr t0 sz i off cs) (hy:fr.ev y=v) (hsol:v.solid=true) (hv:AV.pvhs? hs v.cells=some vs)
  (hn:vs.length=n) (hf:Nat.ble (off+n) sz=true) (hu:row u=cs.take off++(vs++cs.drop (off+n))) (hD:fr.hasM t0 sz i cs D) (h1:fr.setM t0 sz i (row u)=fr.putM t0 sz ((xs.map row).set i (row u))) (h2:σ.setM t0 sz i (row u)=σ.putM t0 sz ((xs.map row).set i (row u)))
  (h:aops true P all r (Fr.addM t0 sz i (row u) (fr.putM t0 sz ((xs.set i u).map row)) D) (σ.putM t0 sz ((xs.set i u).map row)) K):aops true P all (⟨none,.store t x y,ty,pos,af,none⟩ :: r) fr σ K:=by
 subst hy
 refine aopM_mst ⟨ag,n,t0,sz,i,off,cs,hs,vs,D,_,rfl,ht,hx,hsol,hv,hn,ble_le hf,keepM_of hD,?_⟩
 rw [← hu,h1,h2,← List.map_set]
 exact h
end
theorem w_frz {α:Type}{k0:Nat}{fr fr':Fr}{σ σ':St} (t sz:Nat) (row:α→List PV) (xs:List α) (h1:fr.frz t sz (xs.map row)=fr.fro t) (h2:σ.frz t sz (xs.map row)=σ.fro t) (h:Weak k0 (fr.frz t sz (xs.map row)) (σ.frz t sz (xs.map row)) fr' σ'):Weak k0 fr σ fr' σ' :=
 Weak.trans (fun c g w tmps _ hi hf=>frz_sound t sz _ h1 h2 hi hf) h
end Go.Proofs.YtmbdbdhdcbdcpaaGreatDoor.Abs
namespace Go.Proofs.YtmbdbdhdcbdcpaaGreatDoor.Abs
open Go
set_option linter.unusedVariables false
set_option linter.unusedSimpArgs false
variable {mo:Bool}
theorem r {α:Sort _}{a:α}:a=a:=rfl
theorem sy {α:Type}{a b:α} (h:some a=some b):b=a:=(Option.some.inj h).symm
theorem lr {a:AV}:a.le a:=AV.le_refl a
def keys:Fr→List Nat
 | []=>[]
 | (i,_) :: r=>i :: keys r
def subB (V:List Nat):List Nat→Bool
 | []=>true
 | i :: r=>V.contains i&&subB V r
theorem subB_mem {V:List Nat}:∀ {l:List Nat},subB V l=true→∀ i∈l,i∈V
 | [],_,i,hi=>by cases hi
 | j :: l,h,i,hi=>by
  simp only [subB,Bool.and_eq_true,List.contains_iff_mem] at h
  rcases List.mem_cons.1 hi with rfl | hi
  ·
   exact h.1
  ·
   exact subB_mem h.2 i hi
theorem prune_sub {V l:List Nat}{fr:Fr} (h:subB V l=true) (d:Nat):((prune V fr).get d).le ((prune l fr).get d):=by
 rw [prune_get,prune_get]
 by_cases hd:d∈l
 ·
  rw [if_pos hd,if_pos (subB_mem h d hd)];exact AV.le_refl _
 ·
  rw [if_neg hd];exact AV.le_any _
section
variable {P:Program}{V:List Nat}{k0:Nat}{Q:Exit→Fr→St→Prop}{fr:Fr}{σ:St}
theorem o_ek {all:List Oper}{y:Code}{fr':Fr} (hk:subB V (keys fr')=true) (hp:prune (keys fr') fr=fr') (h:awp P V k0 y Q fr' σ):aops mo P all [] fr σ fun fr σ=>hold (seqQ (kw P V k0 y Q) Q .normal (prune V fr) σ):=by
 refine ⟨fr',σ,Weak.slots fun d=>?_,h⟩
 have:=prune_sub (fr:=fr) hk d
 rw [hp] at this
 exact this
theorem d_ek {ops:Array Oper}{y:Code}{fr':Fr} (hk:subB V (keys fr')=true) (hp:prune (keys fr') fr=fr') (h:awp P V k0 y Q fr' σ):ad P ops [] fr σ fun fr σ=>hold (seqQ (kw P V k0 y Q) Q .normal (prune V fr) σ):=by
 refine ⟨fr',σ,Weak.slots fun d=>?_,h⟩
 have:=prune_sub (fr:=fr) hk d
 rw [hp] at this
 exact this
theorem w_sr {id:Nat}{l:List Oper}{y:Code} (h:aops true P l l fr σ fun fr σ=>hold (seqQ (kw P V k0 y Q) Q .normal (prune V fr) σ)):awp P V k0 (.seq (.region id l.toArray false) y) Q fr σ:=w_seqw (w_region h)
theorem w_ch {α:Type}{c:Operand}{x y:Code}{b:Bool}{X Y:Option α}{r:α} (he:cond b X Y=some r) (h:fr.ev c=.c (.bool b)) (h1:b=true→X=some r→awp P V k0 x Q fr σ) (h2:b=false→Y=some r→awp P V k0 y Q fr σ):awp P V k0 (.cond c x y) Q fr σ :=
 w_cond b h (fun hb=>h1 hb (cond_t hb he)) (fun hb=>h2 hb (cond_f hb he))
end
section
variable {P:Program}{all r:List Oper}{ops:Array Oper}{rp:List PI}{d dj j i:Nat}{op:Op}{ty:TypeId}{pos:String}{af:Array Edge}{fr:Fr}{σ:St}{K:Fr→St→Prop}{v:AV}{b c w:Bool}{x:Operand}
theorem mV (hx:fr.ev x=v) (h:aops mo P all r ((d,v) :: fr) σ K):aops mo P all (⟨some d,.move x,ty,pos,af,none⟩ :: r) fr σ K:=o_p rfl (p_move hx) h
theorem sV (hx:fr.ev x=v) (h:aops mo P all r ((d,v) :: fr) σ K):aops mo P all (⟨some d,.assign x,ty,pos,af,none⟩ :: r) fr σ K:=o_p rfl (p_assign hx) h
theorem mI {k:IntKind}{n:Int} (hx:fr.ev x=.c (.int k n)) (h:aops mo P all r ((d,.c (.int k n)) :: fr) σ K):aops mo P all (⟨some d,.move x,ty,pos,af,none⟩ :: r) fr σ K:=mV hx h
theorem sI {k:IntKind}{n:Int} (hx:fr.ev x=.c (.int k n)) (h:aops mo P all r ((d,.c (.int k n)) :: fr) σ K):aops mo P all (⟨some d,.assign x,ty,pos,af,none⟩ :: r) fr σ K:=sV hx h
theorem mB {n:Bool} (hx:fr.ev x=.c (.bool n)) (h:aops mo P all r ((d,.c (.bool n)) :: fr) σ K):aops mo P all (⟨some d,.move x,ty,pos,af,none⟩ :: r) fr σ K:=mV hx h
theorem sB {n:Bool} (hx:fr.ev x=.c (.bool n)) (h:aops mo P all r ((d,.c (.bool n)) :: fr) σ K):aops mo P all (⟨some d,.assign x,ty,pos,af,none⟩ :: r) fr σ K:=sV hx h
theorem mS {s:List UInt8} (hx:fr.ev x=.c (.str s)) (h:aops mo P all r ((d,.c (.str s)) :: fr) σ K):aops mo P all (⟨some d,.move x,ty,pos,af,none⟩ :: r) fr σ K:=mV hx h
theorem sS {s:List UInt8} (hx:fr.ev x=.c (.str s)) (h:aops mo P all r ((d,.c (.str s)) :: fr) σ K):aops mo P all (⟨some d,.assign x,ty,pos,af,none⟩ :: r) fr σ K:=sV hx h
theorem mL {α:Type}{sz:Nat}{row:α→List PV}{xs:List α} (hx:fr.ev x=.c (PV.ls sz row xs)) (h:aops mo P all r ((d,.c (PV.ls sz row xs)) :: fr) σ K):aops mo P all (⟨some d,.move x,ty,pos,af,none⟩ :: r) fr σ K:=mV hx h
theorem sL {α:Type}{sz:Nat}{row:α→List PV}{xs:List α} (hx:fr.ev x=.c (PV.ls sz row xs)) (h:aops mo P all r ((d,.c (PV.ls sz row xs)) :: fr) σ K):aops mo P all (⟨some d,.assign x,ty,pos,af,none⟩ :: r) fr σ K:=sV hx h
theorem og (hp:plainOp ⟨some d,op,ty,pos,af,some (j,w)⟩=true) (hj:gslot all j=some dj) (hs:fr.get dj=.c (.bool b)) (hv:(b==w)=true→Pv P ⟨some d,op,ty,pos,af,some (j,w)⟩ fr.ev σ v) (h:aops mo P all r ((d,gv (b==w) v) :: fr) σ K):aops mo P all (⟨some d,op,ty,pos,af,some (j,w)⟩ :: r) fr σ K :=
 o_g hj hs (fun hc=>ov_p hp (hv hc)) h
theorem dq (ho:ops[i]?=some ⟨some d,op,ty,pos,af,none⟩) (hp:plainOp ⟨some d,op,ty,pos,af,none⟩=true) (hv:Pv P ⟨some d,op,ty,pos,af,none⟩ fr.ev σ v) (h:ad P ops rp ((d,v) :: fr) σ K):ad P ops (.q i :: rp) fr σ K:=d_q ho (qv_p hp hv) h
end
open RowKit in
theorem acalls_lib {P:Program}{f:FuncId}{args:List AV}{r:AV} (hc:callable P f=true)
  (h:∀ (g:G) (w:World) (vs:Array Value),RCells g w vs args→(∀ b o,g.I b o→b<w.heap.size)→Glo g.I w→Calls P f vs w fun e w'=>∃ v,e=.returned v∧Below w.heap.size w w'∧∀ g',RAV g' w' v r):ACalls P f args [] r []:=by
 refine ⟨hc,fun w I β τ vs hI hnd hlt hβI hτ hτi hlen hst hargs hglo=>?_⟩
 have hβ:β=[]:=List.eq_nil_of_length_eq_zero hlen
 subst hβ
 refine (h ⟨I,[],τ⟩ w vs hargs hI hglo).mono fun e w'=>?_
 rintro ⟨v,he,hb,hv⟩
 refine ⟨v,⟨I,[],fun _=>none⟩,he,⟨hb.os,hb.tape,hb.output,hb.size,fun b hb' _ _=>hb.block b hb',fun _ _ h=>h,fun _ _ h _ _=>h,fun b o h=>Nat.lt_of_lt_of_le (hI b o h) hb.size,rfl,by simp,List.nodup_nil,rfl,by simp,by simp,
  fun t b h=>(by cases h),fun t t' b h=>(by cases h),fun id cs b hs=>(by simp at hs),fun b o h=>(by simp [World.cell?,hb.block b (hI b o h)]),hglo⟩,hv _⟩
theorem rv_str {I:Nat→Nat→Prop}{w:World}{v:Value}{s:List UInt8} (h:RV I w v (.str s)):v=.string ⟨s.toArray⟩:=by cases h;rfl
theorem rav_c {g:G}{w:World}{v:Value}{p:PV} (h:RAV g w v (.c p)):RV g.I w v p:=by cases h;assumption
theorem rc1 {g:G}{w:World}{vs:Array Value}{a:AV} (h:RCells g w vs [a]):∃ v,vs=#[v]∧RAV g w v a:=by
 obtain ⟨h1,h2⟩:=h
 obtain ⟨l⟩:=vs
 match l,h1 with
 | [v],_=>exact ⟨v,rfl,h2 0 v a rfl rfl⟩
theorem rc_str {g:G}{w:World}{vs:Array Value}{s:List UInt8} (h:RCells g w vs [.c (.str s)]):vs=#[.string ⟨s.toArray⟩]:=by
 obtain ⟨v,rfl,hv⟩:=rc1 h
 rw [rv_str (rav_c hv)]
theorem ite_some {α:Type}{p:Prop} [Decidable p] {a b:α} (h:(if p then some a else none)=some b):p∧b=a:=by
 by_cases hp:p
 ·
  rw [if_pos hp] at h;exact ⟨hp,(Option.some.inj h).symm⟩
 ·
  rw [if_neg hp] at h;cases h
theorem glo_var {P:Program}{I:Nat→Nat→Prop}{w:World} (h:Glo I w) {k:Nat}{p:Array Value→Prop} (hm:(k,p)∈globs) {n:String} (hn:P.globalNamed n=some k):∃ cs,w.var? P n=some cs∧p cs:=by
 obtain ⟨_,cs,e,l,h2,_,h4⟩:=h _ hm
 exact ⟨cs,by simp [World.var?,hn,h2],h4⟩
end Go.Proofs.YtmbdbdhdcbdcpaaGreatDoor.Abs

/- Regions whose order is drawn, told in one order: quiet operations may float past the others; what they read is looked at again. Regions with two operations in no order of their own: told in both orders. The code's judgement, and how a call's judgement is shown. How a call's judgement is shown: enter, walk, hand back. Handing back. The walk's steps. Lemmas for walks: drawn regions step by step, calls in the common cases, hand-backs. -/
import Derived.Test.YtnigjppddilpcaaGreatDoorAbs14
import Derived.IntWalk
namespace Go.Proofs.YtnigjppddilpcaaGreatDoor.Abs
open Go
set_option linter.unusedVariables false
set_option linter.unusedSimpArgs false
theorem aOr {ag:Bool}{n:Nat}{x:AV}{σ:St}{K K':AV→Prop} (hk:∀ v,K v→K' v):aBj ag n x σ K→aBj ag n x σ K':=by
 unfold aBj
 repeat' split
 all_goals first | exact fun h=>hk _ h | exact fun h=>⟨h.1,hk _ h.2⟩ | exact id
theorem aQi {P:Program}{op:BinOp}{t:TypeId}{x y:AV}{K K':AV→Prop} (hk:∀ v,K v→K' v):zC P op t x y K→zC P op t x y K':=by
 unfold zC
 repeat' split
 all_goals first | exact fun h=>hk _ h | exact fun h=>⟨h.1,hk _ h.2⟩ | exact fun h=>⟨h.1,h.2.1,hk _ h.2.2⟩ | exact id
theorem aQj {k:Nat}{x:AV}{K K':AV→Prop} (hk:∀ v,K v→K' v):aHm k x K→aHm k x K':=by
 unfold aHm
 repeat' split
 all_goals first | exact fun h=>⟨h.1,hk _ h.2⟩ | exact id
theorem aLL {lo hi:Option AV}{n:Nat}{k k':Nat→Nat→Prop} (hk:∀ l h,k l h→k' l h):tD lo hi n k→tD lo hi n k':=by
 unfold tD
 repeat' split
 all_goals first | exact fun h=>hk _ _ h | exact fun h=>⟨h.1,h.2.1,hk _ _ h.2.2⟩ | exact fun h=>⟨h.1,h.2.1,h.2.2.1,hk _ _ h.2.2.2⟩ | exact id
theorem aMS {P:Program}{t:TypeId}{x:AV}{lo hi:Option AV}{K K':AV→Prop} (hk:∀ v,K v→K' v):aCZ P t x lo hi K→aCZ P t x lo hi K':=by
 unfold aCZ
 repeat' split
 all_goals first | exact fun h=>⟨h.1,aLL (fun l h=>hk _) h.2⟩ | exact id
theorem aGj {P:Program}{o:Oper}{t tx:TypeId}{s x:AV}{σ:St}{K K':Option (Nat→Bool)→AV→St→Prop} (hk:∀ dm v σ,K dm v σ→K' dm v σ):wT P o t tx s x σ K→wT P o t tx s x σ K':=by
 unfold wT
 repeat' split
 all_goals first
  | exact id
  | exact fun h=>⟨h.1,h.2.1,h.2.2.1,h.2.2.2.1,h.2.2.2.2.1,hk _ _ _ h.2.2.2.2.2⟩
  | exact fun h=>⟨h.1,h.2.1,h.2.2.1,h.2.2.2.1,hk _ _ _ h.2.2.2.2⟩
  | exact fun h=>⟨h.1,h.2.1,h.2.2.1,hk _ _ _ h.2.2.2⟩
  | exact fun h=>⟨h.1,h.2.1,h.2.2.1,h.2.2.2.1,h.2.2.2.2.1,h.2.2.2.2.2.1,hk _ _ _ h.2.2.2.2.2.2⟩
theorem aOF {P:Program}{o:Oper}{ev:Operand→AV}{σ:St}{K K':Option (Nat→Bool)→AV→St→Prop} (hk:∀ dm v σ,K dm v σ→K' dm v σ):eG P o ev σ K→eG P o ev σ K':=by
 obtain ⟨dst,op,ty,pos,after,guard⟩:=o
 cases op
 case call c =>
  obtain ⟨callee,args,argTypes⟩:=c
  cases callee with
  | builtin b =>
   cases b <;> simp only [eG] <;> repeat' split
   all_goals first | exact fun h=>aQj (fun v=>hk _ _ _) h | exact fun h=>aGj hk h | exact fun h=>hk _ _ _ h | exact id
  | _=>exact id
 case slice t x lo hi mx =>
  cases mx
  ·
   exact fun h=>⟨h.1,aMS (fun v=>hk _ _ _) h.2⟩
  ·
   exact id
 case makeFunc fn f cs=>cases fn <;> first | exact fun h=>⟨h.1,hk _ _ _ h.2⟩ | exact id
 case binOp=>simp only [eG];exact aQi (fun v=>hk _ _ _)
 case buildSlice t n parts =>
  simp only [eG]
  split
  ·
   rintro ⟨h1,h2,hs,h⟩
   refine ⟨h1,h2,hs,?_⟩
   split at h
   ·
    exact hk _ _ _ h
   ·
    split at h
    ·
     exact ⟨h.1,hk _ _ _ h.2⟩
    ·
     exact h
  ·
   exact id
 all_goals simp only [eG]
 all_goals repeat' split
 all_goals first
  | exact id
  | exact fun h=>hk _ _ _ h
  | exact fun h=>aOr (fun v=>hk _ _ _) h
  | exact fun h=>⟨fun e=>hk _ _ _ (h.1 e),fun e=>hk _ _ _ (h.2 e)⟩
  | exact fun h=>⟨h.1,hk _ _ _ h.2⟩
  | exact fun h=>⟨h.1,h.2.1,hk _ _ _ h.2.2⟩
  | exact fun h=>⟨h.1,h.2.1,h.2.2.1,hk _ _ _ h.2.2.2⟩
  | exact fun h=>⟨h.1,h.2.1,h.2.2.1,fun x e=>hk _ _ _ (h.2.2.2 x e)⟩
  | exact fun h=>⟨h.1,h.2.1,h.2.2.1,h.2.2.2.1,hk _ _ _ h.2.2.2.2⟩
  | exact fun h=>⟨h.1,h.2.1,h.2.2.1,fun b e=>hk _ _ _ (h.2.2.2 b e)⟩
  | (rintro ⟨h1,h2,l,h3,h4⟩;exact ⟨h1,h2,l,h3,hk _ _ _ h4⟩)
theorem aLf {P:Program}{o:Oper}{ev:Operand→AV}{σ:St}{K K':Option (Nat→Bool)→AV→St→Prop} (hk:∀ dm v σ,K dm v σ→K' dm v σ):aEm P o ev σ K→aEm P o ev σ K':=by
 rintro (h | ⟨v,h,h2⟩ | ⟨v,h,h2⟩ | ⟨dm,v,σ',h,h2⟩)
 ·
  exact .inl (aOF hk h)
 ·
  exact .inr (.inl ⟨v,h,hk _ _ _ h2⟩)
 ·
  exact .inr (.inr (.inl ⟨v,h,hk _ _ _ h2⟩))
 ·
  exact .inr (.inr (.inr ⟨dm,v,σ',h,hk _ _ _ h2⟩))
inductive PI where
 | q (i:Nat)
 | n (i:Nat) (rl:List Nat)
def PI.ix:PI→Nat
 | .q i=>i
 | .n i _=>i
def aRu (P:Program) (dst:Option Tmp) (fv:AV) (args:List AV) (σ:St) (K:Option (Nat→Bool)→AV→St→Prop):Prop :=
 match fv with
 | .fn f caps=>∃ d ids lt as σc r σr,List.Nodup ids∧List.Nodup lt∧(∀ i∈ids,i<σ.length)∧AV.leL (AV.lowTL lt ids (args++caps)) as∧leS (σ.sub ids lt) σc∧cR P f as σc r σr ∧
  K (some (aFg lt d)) (r.lift ids σ.length d) (σ.after ids d σr lt)
 | _=>False
def aMP (P:Program) (o:Oper) (ev:Operand→AV) (σ:St) (K:Option (Nat→Bool)→AV→St→Prop):Prop :=
 match o.op with
 | .call { callee:=.value f,args,argTypes }=>aRu P o.dst (ev f) (args.toList.map ev) σ K
 | _=>(match aCa o with
  | some (neg,t,x,y)=>aOt P neg t (ev x) (ev y) fun v=>K .none v σ
  | _=>aEm P o ev σ K)
theorem aT6 {P:Program}{o:Oper}{fr:Fr}{σ:St}{K:Fr→St→Prop}:aop P o fr σ K=aMP P o fr.ev σ fun dm v σ'=>K ((fr.demo dm).put o.dst v) σ':=by
 obtain ⟨dst,op,ty,pos,after,guard⟩:=o
 cases op
 case call c=>obtain ⟨callee,args,argTypes⟩:=c;cases callee <;> rfl
 all_goals rfl
theorem aJk {P:Program}{o:Oper}{ev ev':Operand→AV}{σ:St}{K:Option (Nat→Bool)→AV→St→Prop} (h:∀ x∈o.op.operands,ev x=ev' x):aMP P o ev σ K=aMP P o ev' σ K:=by
 have hv:=aFK (P:=P) (σ:=σ) (K:=K) h
 unfold aMP
 split
 ·
  rename_i f args ts hop
  have hf:ev f=ev' f:=h f (by simp [hop,Op.operands,Call.operands])
  have ha:args.toList.map ev=args.toList.map ev':=List.map_congr_left fun x hx=>h x (by simp [hop,Op.operands,Call.operands];simp at hx;first | exact .inr hx | exact .inl hx)
  rw [hf,ha]
 ·
  split
  ·
   rename_i neg t x y hn
   have hxy:ev x=ev' x∧ev y=ev' y:=by
    unfold aCa at hn
    split at hn
    ·
     rename_i hop
     cases hn
     exact ⟨h _ (by simp [hop,Op.operands]),h _ (by simp [hop,Op.operands])⟩
    ·
     rename_i hop
     cases hn
     exact ⟨h _ (by simp [hop,Op.operands]),h _ (by simp [hop,Op.operands])⟩
    ·
     cases hn
   rw [hxy.1,hxy.2]
  ·
   exact hv
def YAf (P:Program) (ops:Array Oper) (σ:St) (q:Nat) (fr:Fr):Prop:=∃ o d,ops[q]?=some o∧o.dst=some d∧YA P ops σ o (fr.get d) fr.get
def RC (P:Program) (ops:Array Oper) (σ:St) (fr:Fr):List Nat→Prop
 | []=>True
 | q :: r=>YAf P ops σ q fr∧RC P ops σ fr r
theorem aRn {P:Program}{ops:Array Oper}{σ:St}{fr:Fr}:∀ {l:List Nat},RC P ops σ fr l→∀ q∈l,YAf P ops σ q fr
 | [],_,q,hq=>by simp at hq
 | x :: l,h,q,hq=>by
  rcases eT.1 hq with rfl | hq
  ·
   exact h.1
  ·
   exact aRn h.2 q hq
def ad (P:Program) (ops:Array Oper):List PI→Fr→St→(Fr→St→Prop)→Prop
 | [],fr,σ,K=>K fr σ
 | .q i :: r,fr,σ,K=>(match ops[i]? with
  | some o=>qW ops.toList o fr.get (∃ v,AQ P o fr.ev σ v∧ad P ops r (fr.put o.dst v) σ K) (ad P ops r (fr.put o.dst (.tup [])) σ K)
  | _=>False)
 | .n i rl :: r,fr,σ,K=>(match ops[i]? with
  | some o=>qW ops.toList o fr.get (aop P o fr σ fun fr' σ'=>RC P ops σ' fr' rl∧ad P ops r fr' σ' K) (ad P ops r (fr.put o.dst (.tup [])) σ K)
  | _=>False)
def aCY (ops:Array Oper) (i j:Nat):Bool:=match ops[i]?,ops[j]? with   -- i writes nothing that j looks at or writes
 | some o,some oj=>(match o.dst with | some d=>!(oj.looksAt ops).contains d&&(i==j||oj.dst != some d) | _=>true)
 | _,_=>false
def aEv (ops:Array Oper) (j i:Nat):Bool:=match ops[j]?,ops[i]? with   -- i looks at what j writes
 | some oj,some o=>(match oj.dst with | some d=>(o.looksAt ops).contains d | _=>false)
 | _,_=>true
def okL (ops:Array Oper):List PI→List Nat→Bool
 | [],_=>true
 | it :: r,done =>
  decide (it.ix<ops.size)&&!done.contains it.ix&&(done.all fun j=>!aEv ops j it.ix||qL ops ops.size j it.ix) &&
  (match it with
   | .q i=>(match ops[i]? with | some o=>o.dst.isSome | _=>false)&&aCY ops i i&&(done.all fun j=>aCY ops i j)
   | .n i rl=>(done.all fun j=>aCY ops i j||qL ops ops.size j i)&&(r.all fun x=>qL ops ops.size i x.ix)&&(done.all fun j=>rl.contains j||qL ops ops.size j i)) &&
  okL ops r (it.ix :: done)
def aHB (ops:Array Oper) (pl:List PI):Bool :=
 okL ops pl []&&((List.range ops.size).all fun i=>pl.any fun x=>x.ix==i)&&((List.range ops.size).all fun i=>match ops[i]? with | some o=>o.after.all fun e=>!Region.binds .any e||decide (e.on<i) | _=>false)
def aQT (ops:Array Oper) (L:Array Bool) (done:List Nat) (d:Nat):Prop:=∃ q∈done,L.getD q false=false∧∃ o,ops[q]?=some o∧o.dst=some d
open Classical in
noncomputable def aAk (ops:Array Oper) (L:Array Bool) (done:List Nat) (fr:Fr) (d:Nat):AV:=if aQT ops L done d then .any else fr.get d
structure DI (P:Program) (ops:Array Oper) (c:Ctx) (N:Nat) (L:Array Bool) (done:List Nat) (fr:Fr) (σ:St) (a:Act) (w:World):Prop where
 sz:L.size=ops.size
 dc:DC ops L
 sub:∀ i,L.getD i false=true→i∈done
 ya:∀ q∈done,L.getD q false=false→YAf P ops σ q fr
 sim:aDv c N a w (aAk ops L done fr) σ
theorem aKH {ops:Array Oper}{o:Oper}{t:Nat} (h:.tmp t∈o.op.operands):t∈o.looksAt ops:=by
 unfold Oper.looksAt
 exact List.mem_append_left _ (sG.2 ⟨.tmp t,by simpa using h,rfl⟩)
theorem aGn {ops:Array Oper}{o:Oper}{F F':Nat→AV}{y n:Prop} (h:∀ d∈o.looksAt ops,F d=F' d):qW ops.toList o F y n=qW ops.toList o F' y n:=by
 unfold qW
 cases hg:o.guard with
 | none=>rfl
 | some p =>
  obtain ⟨j,want⟩:=p
  simp only
  cases hp:ops.toList[j]? with
  | none=>rfl
  | some q =>
   simp only
   cases hd:q.dst with
   | none=>rfl
   | some d =>
    simp only
    rw [h d (by unfold Oper.looksAt;rw [dS] at hp;exact List.mem_append_right _ (by simp [hg,hp,hd]))]
theorem aLl {ops:Array Oper}{o:Oper}{F F':Nat→AV} (h:∀ d∈o.looksAt ops,F d=F' d):∀ x∈o.op.operands,evF F x=evF F' x:=by
 intro x hx
 cases x with
 | tmp t=>exact h t (aKH hx)
 | _=>rfl
theorem aRr {P:Program}{ops:Array Oper}{σ:St}{o:Oper}{v:AV}{F F':Nat→AV} (h:∀ d∈o.looksAt ops,F d=F' d):YA P ops σ o v F=YA P ops σ o v F':=by
 unfold YA
 rw [aGn h,aMI (aLl h)]
theorem aG3 {L:Array Bool}{i j:Nat} (hi:i<L.size):(L.setIfInBounds i true).getD j false=if j=i then true else L.getD j false:=by
 by_cases h:j=i
 ·
  subst h;simp [dY,hi]
 ·
  simp [dY,nR (kQ h),h]
theorem aTc {L:Array Bool}{i:Nat} (h:L.getD i true=false):i<L.size:=by
 rw [dY] at h
 cases hi:L[i]? with
 | none=>rw [hi] at h;simp at h
 | some b=>exact (kF.1 hi).1
theorem aNv {ops:Array Oper}{i j:Nat}{o oj:Oper}{d:Nat} (hi:ops[i]?=some o) (hj:ops[j]?=some oj) (hd:oj.dst=some d) (hl:d∈o.looksAt ops):aEv ops j i=true:=by
 simp [aEv,hi,hj,hd,hl]
theorem aEj {ops:Array Oper}{i j:Nat}{o oj:Oper}{d:Nat} (hi:ops[i]?=some o) (hj:ops[j]?=some oj) (hd:o.dst=some d) (h:aCY ops i j=true):d ∉ oj.looksAt ops∧(i=j∨oj.dst≠some d):=by
 simp only [aCY,hi,hj,hd,aR,gP,eC,nK,bne_iff_ne] at h
 refine ⟨fun hm=>?_,h.2⟩
 have:=jG.2 hm
 rw [h.1] at this
 cases this
theorem aOo {P:Program}{ops:Array Oper}{c:Ctx}{N:Nat}{L:Array Bool}{σ:St}{a:Act}{w:World}{K:Fr→St→Prop}:∀ (pl:List PI) (done:List Nat) (fr:Fr),okL ops pl done=true→(∀ i,i<ops.size→i∈done∨∃ x∈pl,x.ix=i)→DI P ops c N L done fr σ a w→ad P ops pl fr σ K →
  (∀ q∈done,∀ q'∈done,L.getD q false=false→L.getD q' false=false→aEv ops q' q=true→qL ops ops.size q' q=true) →
  ∃ pl' done' fr',(pl'=[]∨∃ i rl r,pl'=.n i rl :: r)∧okL ops pl' done'=true∧(∀ i,i<ops.size→i∈done'∨∃ x∈pl',x.ix=i)∧DI P ops c N L done' fr' σ a w∧ad P ops pl' fr' σ K ∧
   (∀ q∈done',∀ q'∈done',L.getD q false=false→L.getD q' false=false→aEv ops q' q=true→qL ops ops.size q' q=true)
 | [],done,fr,hok,hall,hdi,had,h1=>⟨[],done,fr,.inl rfl,hok,hall,hdi,had,h1⟩
 | .n i rl :: r,done,fr,hok,hall,hdi,had,h1=>⟨.n i rl :: r,done,fr,.inr ⟨i,rl,r,rfl⟩,hok,hall,hdi,had,h1⟩
 | .q i :: r,done,fr,hok,hall,hdi,had,h1=>by
  have hok0:=hok
  simp only [okL,PI.ix,aR,bU,gP] at hok
  obtain ⟨⟨⟨⟨hlt,hnd⟩,hneed⟩,⟨hdst,hself⟩,hap⟩,hrest⟩:=hok
  have hni:i ∉ done:=fun hm=>by have:=jG.2 hm;rw [hnd] at this;cases this
  have hLi:L.getD i false=false:=by
   cases h:L.getD i false with
   | false=>rfl
   | true=>exact absurd (hdi.sub i h) hni
  obtain ⟨o,ho⟩:∃ o,ops[i]?=some o:=⟨_,eQ (gE hlt)⟩
  rw [ho] at hdst
  obtain ⟨d,hd⟩:=jS.1 hdst
  simp only [ad,ho] at had
  obtain ⟨v,hy,hrest'⟩:∃ v,YA P ops σ o v fr.get∧ad P ops r (fr.put o.dst v) σ K:=by
   unfold YA
   rw [aIX]
   unfold qW at had ⊢
   split at had
   ·
    obtain ⟨v,h3,h4⟩:=had;exact ⟨v,h3,h4⟩
   ·
    rename_i j want hg
    split at had
    ·
     split at had
     ·
      split at had
      ·
       rename_i b hb
       by_cases hbw:b=want
       ·
        obtain ⟨v,h3,h4⟩:=had.1 hbw
        exact ⟨v,⟨fun _=>h3,fun e=>absurd hbw e⟩,h4⟩
       ·
        exact ⟨.tup [],⟨fun e=>absurd e hbw,fun _=>rfl⟩,had.2 hbw⟩
      ·
       exact ⟨.tup [],rfl,had⟩
      ·
       exact had.elim
     ·
      exact had.elim
    ·
     exact had.elim
  have hput:(fr.put o.dst v).get=wQ fr.get o.dst v:=aE8 fr o.dst v
  have hselfd:=(aEj ho ho hd hself).1
  have hyi:YAf P ops σ i (fr.put o.dst v):=by
   refine ⟨o,d,ho,hd,?_⟩
   rw [hput]
   have:wQ fr.get o.dst v d=v:=by simp [wQ,hd]
   rw [this]
   exact (YA.put (fun e he=>by rw [hd] at he;cases he;exact hselfd)).2 hy
  refine aOo r (i :: done) (fr.put o.dst v) hrest (fun k hk=>?_) ⟨hdi.sz,hdi.dc,fun k hk=>iZ _ (hdi.sub k hk),fun q hq hLq=>?_,?_⟩ hrest' (fun q hq q' hq' hLq hLq' hnb=>?_)
  ·
   rcases hall k hk with h | ⟨x,hx,rfl⟩
   ·
    exact .inl (iZ _ h)
   ·
    rcases eT.1 hx with rfl | hx
    ·
     exact .inl (by simp [PI.ix])
    ·
     exact .inr ⟨x,hx,rfl⟩
  ·
   rcases eT.1 hq with rfl | hq
   ·
    exact hyi
   ·
    obtain ⟨oq,dq,hoq,hdq,hyq⟩:=hdi.ya q hq hLq
    have hapq:=aEj ho hoq hd (cI.1 hap q hq)
    refine ⟨oq,dq,hoq,hdq,?_⟩
    rw [hput]
    have hne:dq≠d:=by
     rintro rfl
     rcases hapq.2 with rfl | h
     ·
      exact hni hq
     ·
      exact h hdq
    have:wQ fr.get o.dst v dq=fr.get dq:=by simp [wQ,hd,hne]
    rw [this]
    exact (YA.put (fun e he=>by rw [hd] at he;cases he;exact hapq.1)).2 hyq
  ·
   obtain ⟨g,hi,hf,hN,hdd⟩:=hdi.sim
   refine ⟨g,hi,fun e=>?_,hN,hdd⟩
   have:=hf e
   unfold aAk at this ⊢
   split
   ·
    exact .any
   ·
    rename_i hnp
    have hnp':¬aQT ops L done e:=fun ⟨q,hq,h⟩=>hnp ⟨q,iZ _ hq,h⟩
    rw [aY hnp'] at this
    have hed:e≠d:=fun he=>hnp ⟨i,by simp,hLi,o,ho,by rw [he];exact hd⟩
    rw [hput]
    simpa [wQ,hd,hed] using this
  ·
   have hno:∀ k∈i :: done,aCY ops i k=true→aEv ops i k=false:=by
    intro k hk hapk
    simp only [aEv,ho]
    cases hk':ops[k]? with
    | none=>simp [aCY,ho,hk'] at hapk
    | some ok =>
     have:=(aEj ho hk' hd hapk).1
     simp only [hd]
     exact Bool.eq_false_iff.2 fun hc=>this (jG.1 hc)
   rcases eT.1 hq' with he' | hm'
   ·
    exfalso
    subst he'
    rcases eT.1 hq with he | hm
    ·
     rw [he,hno _ (by simp) hself] at hnb;cases hnb
    ·
     rw [hno q (iZ _ hm) (cI.1 hap q hm)] at hnb;cases hnb
   ·
    rcases eT.1 hq with he | hm
    ·
     have:=cI.1 hneed q' hm'
     simp only [eC,gP] at this
     rw [he] at hnb ⊢
     rcases this with h | h
     ·
      rw [h] at hnb;cases hnb
     ·
      exact h
    ·
     exact h1 q hm q' hm' hLq hLq' hnb
theorem aQm {P:Program}{o:Oper}{ev:Operand→AV}{σ:St}{K K':Option (Nat→Bool)→AV→St→Prop} (hk:∀ dm v σ,K dm v σ→K' dm v σ):aMP P o ev σ K→aMP P o ev σ K':=by
 unfold aMP
 split
 ·
  unfold aRu
  split
  ·
   rintro ⟨d,ids,lt,as,σc,r,σr,h1,h2,h3,h4,h5,h6,h7⟩
   exact ⟨d,ids,lt,as,σc,r,σr,h1,h2,h3,h4,h5,h6,hk _ _ _ h7⟩
  ·
   exact id
 ·
  split
  ·
   unfold aOt
   repeat' split
   all_goals first | exact fun h=>⟨h.1,fun b hb=>hk _ _ _ (h.2 b hb)⟩ | exact fun h=>⟨h.1,hk _ _ _ h.2⟩ | exact id
  ·
   exact aLf hk
theorem nA.undef {g g':G}{w w':World}{a:AV} (h:nA g w undef a):nA g' w' undef a∧∀ f,a.dem f=a:=by
 unfold Go.undef at h ⊢
 cases h with
 | c h=>cases h
 | own t sz xs h =>
  obtain ⟨_,_,e,cells,ho,_⟩:=h
  rcases ho.2 with ⟨h,_⟩ | ⟨_,_,_,h,_⟩ <;> cases h
 | mrow t sz xs h =>
  obtain ⟨_,_,e,cells,ho,_⟩:=h
  rcases ho.2 with ⟨h,_⟩ | ⟨_,_,_,h,_⟩ <;> cases h
 | mptr t sz i off row h =>
  obtain ⟨b,cur,e,h,_⟩:=h
  cases h
 | tup vs cs hl _ =>
  have:cs=[]:=eM (by simpa using hl.symm)
  subst this
  exact ⟨.tup _ _ rfl (fun i v a hv=>by simp at hv),fun f=>rfl⟩
 | any=>exact ⟨.any,fun f=>rfl⟩
def aKE (F:Nat→AV) (dm:Option (Nat→Bool)):Nat→AV:=fun d=>match dm with | .none=>F d | some f=>(F d).dem f
theorem aOz {P:Program}{c:Ctx}{N:Nat}{o:Oper}{a:Act}{w:World}{F:Nat→AV}{σ:St}{K:Option (Nat→Bool)→AV→St→Prop}{next:Act→World→Prop}{Q:Exit→Act→World→Prop} (hok:aDF N o=true)
  (h:aMP P o (evF F) σ K) (hs:aDv c N a w F σ) (hn:∀ a' w' dm v σ',K dm v σ'→aDv c N a' w' (wQ (aKE F dm) o.dst v) σ'→next a' w'):o.wp P a w next Q:=by
 let l:=List.range N++aKf o
 let fr:=aOY F l
 have hfr:∀ d,d∈l→fr.get d=F d:=fun d hd=>by rw [aGy,bB hd]
 obtain ⟨g,hi,hf,hN,hd⟩:=hs
 have hev:∀ x∈o.op.operands,(evF F) x=fr.ev x:=by
  intro x hx
  cases x with
  | tmp t =>
   have:t∈l:=List.mem_append_right _ (sG.2 ⟨.tmp t,by simpa using hx,rfl⟩)
   exact (hfr t this).symm
  | _=>rfl
 rw [aJk hev] at h
 have h':aop P o fr σ (fun fr' σ'=>∃ dm v,fr'=(fr.demo dm).put o.dst v∧K dm v σ'):=by
  rw [aT6]
  exact aQm (fun dm v σ' hk=>⟨dm,v,rfl,hk⟩) h
 have hs:Sim c N a w fr σ:=⟨g,hi,fun d=>by
  rw [aGy]
  split
  ·
   exact hf d
  ·
   exact .any,hN,hd⟩
 refine aLe hok h' hs (fun a' w' fr' σ' hk hs'=>?_)
 obtain ⟨dm,v,rfl,hk⟩:=hk
 obtain ⟨g',hi',hf',hN',hd'⟩:=hs'
 refine hn a' w' dm v σ' hk ⟨g',hi',fun d=>?_,hN',hd'⟩
 have hthis:=hf' d
 rw [aE8] at hthis
 by_cases hdl:d∈l
 ·
  have e:(fr.demo dm).get d=aKE F dm d:=by
   cases dm with
   | none=>exact hfr d hdl
   | some f=>simp only [Fr.demo,aKE];rw [Fr.get_dem,hfr d hdl]
  have e2:wQ (fr.demo dm).get o.dst v d=wQ (aKE F dm) o.dst v d:=by
   cases hdst:o.dst with
   | none=>exact e
   | some q=>simp only [wQ];rw [e]
  rw [← e2]
  exact hthis
 ·
  have hdN:¬d<N:=fun h=>hdl (List.mem_append_left _ (fE.2 h))
  have hu:a'.tmps.getD d Go.undef=Go.undef:=by rw [dY,Array.getElem?_eq_none (by omega)];rfl
  have hu0:a.tmps.getD d Go.undef=Go.undef:=by rw [dY,Array.getElem?_eq_none (by omega)];rfl
  have h0:=hf d
  rw [hu0] at h0
  obtain ⟨h1,h2⟩:=nA.undef (g':=g') (w':=w') h0
  have hne:∀ q,o.dst=some q→d≠q:=fun q hq he=>hdN (he ▸ aBz hok q hq)
  have e0:aKE F dm d=F d:=by
   cases dm with
   | none=>rfl
   | some f=>exact h2 f
  have e:wQ (aKE F dm) o.dst v d=F d:=by
   cases hdst:o.dst with
   | none=>exact e0
   | some q=>simp only [wQ];rw [aY (hne q hdst)];exact e0
  rw [hu,e]
  exact h1
def left (L:Array Bool):Nat→Nat
 | 0=>0
 | n+1=>left L n+(if L.getD n false=true then 0 else 1)
theorem aJI {L:Array Bool}{i:Nat} (hi:i<L.size) (hL:L.getD i false=false):∀ n,left (L.setIfInBounds i true) n+(if i<n then 1 else 0)=left L n
 | 0=>rfl
 | n+1=>by
  have ih:=aJI hi hL n
  simp only [left,aG3 hi]
  by_cases h:n=i
  ·
   subst h
   rw [aY (Nat.lt_irrefl _)] at ih
   rw [bB rfl,bB (rfl:true=true),bB (Nat.lt_succ_self _),hL,aY (by simp)]
   omega
  ·
   rw [aY h]
   by_cases h2:i<n
   ·
    rw [bB h2] at ih
    rw [bB (show i<n+1 by omega)]
    omega
   ·
    rw [aY h2] at ih
    rw [aY (show ¬i<n+1 by omega)]
    omega
theorem aLp {L:Array Bool}:∀ {n:Nat},left L n=0→∀ i,i<n→L.getD i false=true
 | 0,_,i,hi=>by omega
 | n+1,h,i,hi=>by
  simp only [left] at h
  by_cases he:i=n
  ·
   subst he
   cases hL:L.getD i false with
   | true=>rfl
   | false=>rw [hL] at h;simp at h
  ·
   exact aLp (n:=n) (by omega) i (by omega)
theorem aJH:∀ (n m:Nat),left (Array.replicate m false) n=n
 | 0,m=>rfl
 | n+1,m=>by
  have:(Array.replicate m false).getD n false=false:=by
   rw [dY]
   cases h:(Array.replicate m false)[n]? with
   | none=>rfl
   | some b=>rw [Array.getElem?_replicate] at h;split at h <;> simp_all
  simp only [left,aJH n m,this]
  simp
theorem aNH {ops:Array Oper}{L:Array Bool}{rk:Nat→Nat} (hsz:L.size=ops.size) (hord:∀ i,i<ops.size→∃ o,ops[i]?=some o∧∀ e∈o.after,Region.binds .any e=true→e.on<ops.size∧rk e.on<rk i):∀ n i,rk i<n→i<ops.size→L.getD i false=false→∃ k,k∈Region.ready .any ops L
 | 0,i,h,_,_=>by omega
 | n+1,i,h,hi,hL=>by
  obtain ⟨o,ho,hb⟩:=hord i hi
  by_cases hall:∀ e∈o.after,Region.binds .any e=true→L.getD e.on false=true
  ·
   refine ⟨i,?_⟩
   unfold Region.ready
   refine pI.2 ⟨fE.2 hi,?_⟩
   have h1:L.getD i true=false:=by
    have:i<L.size:=by omega
    simp [dY,this] at hL ⊢
    exact hL
   simp only [h1,ho,eO,eR,iT,dW]
   rw [Array.all_eq_true']
   intro e he
   cases hbe:Region.binds .any e with
   | false=>rfl
   | true=>simp [hall e he hbe]
  ·
   simp only [Classical.not_forall] at hall
   obtain ⟨e,he,hbe,hle⟩:=hall
   have hlt:=hb e he hbe
   exact aNH hsz hord n e.on (by omega) hlt.1 (by simpa using hle)
theorem aEB {ops:Array Oper}{L:Array Bool}{i:Nat} (h:i∈Region.ready .any ops L):i<ops.size∧L.getD i true=false:=by
 unfold Region.ready at h
 obtain ⟨h1,h2⟩:=pI.1 h
 simp only [aR,gP] at h2
 exact ⟨fE.1 h1,h2.1⟩
theorem aRv {P:Program}{ops:Array Oper}{c:Ctx}{N:Nat}{Q:Exit→Act→World→Prop}{K:Fr→St→Prop}{rk:Nat→Nat} (hok:∀ (i:Nat) o,ops[i]?=some o→aDF N o=true)
  (hord:∀ i,i<ops.size→∃ o,ops[i]?=some o∧∀ e∈o.after,Region.binds .any e=true→e.on<ops.size∧rk e.on<rk i) (hQ:∀ a w fr σ,K fr σ→Sim c N a w fr σ→Q .normal a w) :
  ∀ (n:Nat) (L:Array Bool) (pl:List PI) (done:List Nat) (fr:Fr) (σ:St) (a:Act) (w:World),left L ops.size=n→okL ops pl done=true→(∀ i,i<ops.size→i∈done∨∃ x∈pl,x.ix=i)→DI P ops c N L done fr σ a w→ad P ops pl fr σ K →
   (∀ q∈done,∀ q'∈done,L.getD q false=false→L.getD q' false=false→aEv ops q' q=true→qL ops ops.size q' q=true)→wpAny P .any ops Q n L a w:=by
 intro n
 induction n with
 | zero =>
  intro L pl done fr σ a w hl hpl hall hdi had h1
  obtain ⟨pl',done',fr',hpl',hok',hall',hdi',had',h1'⟩:=aOo pl done fr hpl hall hdi had h1
  have hlist:∀ i,i<ops.size→L.getD i false=true:=aLp hl
  refine ⟨?_,?_⟩
  ·
   refine oC.2 fun i hi=>?_
   obtain ⟨h2,h3⟩:=aEB hi
   have:=hlist i h2
   rw [aGz h3] at this
   cases this
  ·
   rcases hpl' with rfl | ⟨i,rl,r,rfl⟩
   ·
    refine hQ a w fr' σ had' ?_
    obtain ⟨g,hi,hf,hN,hd⟩:=hdi'.sim
    refine ⟨g,hi,fun d=>?_,hN,hd⟩
    have:=hf d
    unfold aAk at this
    rw [aY] at this
    ·
     exact this
    ·
     rintro ⟨q,hq,hLq,o,ho,_⟩
     rw [hlist q (kF.1 ho).1] at hLq
     cases hLq
   ·
    exfalso
    simp only [okL,PI.ix,aR,gP] at hok'
    have hlt:=gE hok'.1.1.1.1
    have:=hdi'.sub i (hlist i hlt)
    have h5:=jG.2 this
    rw [hok'.1.1.1.2] at h5
    cases h5
 | succ n ih =>
  intro L pl done fr σ a w hl hpl hall hdi had h1
  obtain ⟨pl',done',fr',hpl',hok',hall',hdi',had',h1'⟩:=aOo pl done fr hpl hall hdi had h1
  clear hpl hall hdi had h1 pl done fr
  have hsz:=hdi'.sz
  refine ⟨fun h0=>?_,fun i hi=>?_⟩
  ·
   exfalso
   obtain ⟨k,hk⟩:∃ i,i<ops.size∧L.getD i false=false:=by
    refine qX fun hno=>?_
    have:∀ m,m≤ops.size→left L m=0:=by
     intro m
     induction m with
     | zero=>intro _;rfl
     | succ m ihm =>
      intro hm
      simp only [left,ihm (by omega)]
      have:L.getD m false=true:=by
       cases h:L.getD m false with
       | true=>rfl
       | false=>exact absurd ⟨m,by omega,h⟩ hno
      simp [this]
    rw [this ops.size (eP _)] at hl
    cases hl
   obtain ⟨k2,hk2⟩:=aNH hsz hord (rk k+1) k (by omega) hk.1 hk.2
   rw [h0] at hk2
   cases hk2
  ·
   obtain ⟨hlt,hun⟩:=aEB hi
   have hLi:L.getD i false=false:=aGz hun
   have hiL:i<L.size:=aTc hun
   obtain ⟨o,ho⟩:∃ o,ops[i]?=some o:=⟨_,eQ hlt⟩
   have hleft:left (L.setIfInBounds i true) ops.size=n:=by
    have:=aJI hiL hLi ops.size
    rw [bB hlt] at this
    omega
   have hL':∀ j,(L.setIfInBounds i true).getD j false=if j=i then true else L.getD j false:=fun j=>aG3 hiL
   have hunset:∀ j,(L.setIfInBounds i true).getD j false=false→L.getD j false=false∧j≠i:=by
    intro j hj
    rw [hL' j] at hj
    by_cases he:j=i
    ·
     rw [bB he] at hj;cases hj
    ·
     rw [aY he] at hj;exact ⟨hj,he⟩
   have hdc':=hdi'.dc.set hi
   have hwaits:∀ j,qL ops ops.size j i=true→L.getD j false=true:=fun j hj=>aIs hdi'.dc _ j i hj hi
   unfold wpOp
   simp only [ho]
   by_cases hid:i∈done'
   ·
    -- a quiet operation that was told before
    obtain ⟨oq,d,hoq,hd,hy⟩:=hdi'.ya i hid hLi
    rw [ho] at hoq
    cases hoq
    have hsame:∀ e∈o.looksAt ops,fr'.get e=aAk ops L done' fr' e:=by
     intro e he
     unfold aAk
     rw [aY]
     rintro ⟨q,hq,hLq,oq,hoq,hdq⟩
     have:=h1' i hid q hq hLi hLq (aNv ho hoq hdq he)
     rw [hwaits q this] at hLq
     cases hLq
    rw [aRr hsame] at hy
    have hnext:∀ a' w',aDv c N a' w' (wQ (aAk ops L done' fr') o.dst (fr'.get d)) σ→wpAny P .any ops Q n (L.setIfInBounds i true) a' w':=by
     intro a' w' hs
     refine ih _ pl' done' fr' σ a' w' hleft hok' hall' ⟨by simpa using hsz,hdc',fun k hk=>?_,fun q hq hLq=>hdi'.ya q hq (hunset q hLq).1,?_⟩ had' (fun q hq q' hq' h3 h4=>h1' q hq q' hq' (hunset q h3).1 (hunset q' h4).1)
     ·
      rw [hL' k] at hk
      by_cases he:k=i
      ·
       rw [he];exact hid
      ·
       rw [aY he] at hk;exact hdi'.sub k hk
     ·
      obtain ⟨g,hinv,hf,hN,hdd⟩:=hs
      refine ⟨g,hinv,fun e=>?_,hN,hdd⟩
      have:=hf e
      unfold aAk
      split
      ·
       exact .any
      ·
       rename_i hnp
       simp only [wQ,hd] at this
       by_cases he:e=d
       ·
        rw [bB he] at this;rw [he] at this ⊢;exact this
       ·
        rw [aY he] at this
        unfold aAk at this
        rw [aY] at this
        ·
         exact this
        ·
         rintro ⟨q,hq,hLq,oq,hoq,hdq⟩
         refine hnp ⟨q,hq,?_,oq,hoq,hdq⟩
         rw [hL' q]
         by_cases hqi:q=i
         ·
          exfalso;subst hqi;rw [ho] at hoq;cases hoq;rw [hd] at hdq;cases hdq;exact he rfl
         ·
          rw [aY hqi];exact hLq
    have hs:=hdi'.sim
    obtain ⟨g,hinv,hf,hN,hdd⟩:=hs
    unfold YA at hy
    rcases aBO hf hy with ⟨hw,hy⟩ | ⟨hw,hv⟩
    ·
     simp only [hw,cL]
     exact .inl (aNF (hok i o ho) hy hdi'.sim hnext)
    ·
     simp only [hw,jN,dZ]
     refine hnext _ w ?_
     rw [hv]
     exact aDv.put hinv hf hN hdd (aBz (hok i o ho)) (.tup #[] [] rfl (fun i v a hv=>by simp at hv))
   ·
    -- the next one of the others
    rcases hpl' with rfl | ⟨k,rl,r,rfl⟩
    ·
     rcases hall' i hlt with h | ⟨x,hx,_⟩
     ·
      exact absurd h hid
     ·
      cases hx
    have hokk:=hok'
    simp only [okL,PI.ix,aR,gP] at hok'
    obtain ⟨⟨⟨⟨_,hkd⟩,hneed⟩,⟨hap,hlater⟩,hrl⟩,hrest⟩:=hok'
    have hknd:k ∉ done':=fun hm=>by have:=jG.2 hm;rw [hkd] at this;cases this
    have hki:k=i:=by
     rcases hall' i hlt with h | ⟨x,hx,hxi⟩
     ·
      exact absurd h hid
     ·
      rcases eT.1 hx with rfl | hx
      ·
       exact hxi
      ·
       exfalso
       have this:qL ops ops.size k x.ix=true:=cI.1 hlater x hx
       rw [hxi] at this
       exact hknd (hdi'.sub k (hwaits k this))
    subst hki
    simp only [ad,ho] at had'
    have hsame:∀ e∈o.looksAt ops,fr'.get e=aAk ops L done' fr' e:=by
     intro e he
     unfold aAk
     rw [aY]
     rintro ⟨q,hq,hLq,oq,hoq,hdq⟩
     have:=cI.1 hneed q hq
     simp only [eC,gP,aNv ho hoq hdq he,Bool.true_eq_false,false_or] at this
     rw [hwaits q this] at hLq
     cases hLq
    have hall2:∀ j,j<ops.size→j∈k :: done'∨∃ x∈r,x.ix=j:=by
     intro j hj
     rcases hall' j hj with h | ⟨x,hx,hxj⟩
     ·
      exact .inl (iZ _ h)
     ·
      rcases eT.1 hx with rfl | hx
      ·
       exact .inl (by rw [← hxj];simp [PI.ix])
      ·
       exact .inr ⟨x,hx,hxj⟩
    have hsub2:∀ j,(L.setIfInBounds k true).getD j false=true→j∈k :: done':=by
     intro j hj
     rw [hL' j] at hj
     by_cases he:j=k
     ·
      rw [he];simp
     ·
      rw [aY he] at hj;exact iZ _ (hdi'.sub j hj)
    have h12:∀ q∈k :: done',∀ q'∈k :: done',(L.setIfInBounds k true).getD q false=false→(L.setIfInBounds k true).getD q' false=false→aEv ops q' q=true→qL ops ops.size q' q=true:=by
     intro q hq q' hq' h3 h4
     rcases eT.1 hq with he | hq
     ·
      exact absurd he (hunset q h3).2
     ·
      rcases eT.1 hq' with he | hq'
      ·
       exact absurd he (hunset q' h4).2
      ·
       exact h1' q hq q' hq' (hunset q h3).1 (hunset q' h4).1
    rw [aGn hsame] at had'
    have hs:=hdi'.sim
    obtain ⟨g,hinv,hf,hN,hdd⟩:=hs
    rcases aBO hf had' with ⟨hw,hx⟩ | ⟨hw,hx⟩
    ·
     simp only [hw,cL]
     rw [aT6,← aIX,aJk (aLl hsame)] at hx
     refine .inl (aOz (hok k o ho) hx hdi'.sim (fun a' w' dm v σ' hk hs'=>?_))
     obtain ⟨hrc,hrest'⟩:=hk
     refine ih _ r (k :: done') _ σ' a' w' hleft hrest hall2 ⟨by simpa using hsz,hdc',hsub2,fun q hq hLq=>?_,?_⟩ hrest' h12
     ·
      rcases eT.1 hq with he | hq
      ·
       exact absurd he (hunset q hLq).2
      ·
       have:=cI.1 hrl q hq
       simp only [eC] at this
       rcases this with h | h
       ·
        exact aRn hrc q (jG.1 h)
       ·
        have:=hwaits q h
        rw [(hunset q hLq).1] at this
        cases this
     ·
      obtain ⟨g',hinv',hf',hN',hdd'⟩:=hs'
      refine ⟨g',hinv',fun e=>?_,hN',hdd'⟩
      have:=hf' e
      unfold aAk
      split
      ·
       exact .any
      ·
       rename_i hnp
       have hnp':¬(aQT ops L done' e∧o.dst≠some e):=by
        rintro ⟨⟨q,hq,hLq,oq,hoq,hdq⟩,hne⟩
        refine hnp ⟨q,iZ _ hq,?_,oq,hoq,hdq⟩
        rw [hL' q,aY]
        ·
         exact hLq
        ·
         intro he;exact hknd (he ▸ hq)
       have e2:((fr'.demo dm).put o.dst v).get e=wQ (aKE (aAk ops L done' fr') dm) o.dst v e:=by
        rw [aE8]
        have hdem:¬aQT ops L done' e→(fr'.demo dm).get e=aKE (aAk ops L done' fr') dm e:=by
         intro hp
         have h0:aAk ops L done' fr' e=fr'.get e:=by unfold aAk;rw [aY hp]
         cases dm with
         | none=>simp only [Fr.demo,aKE];exact h0.symm
         | some f=>simp only [Fr.demo,aKE];rw [Fr.get_dem,h0]
        cases hdst:o.dst with
        | none=>exact hdem (fun hp=>hnp' ⟨hp,by rw [hdst];simp⟩)
        | some q =>
         simp only [wQ]
         by_cases he:e=q
         ·
          rw [bB he,bB he]
         ·
          rw [aY he,aY he]
          exact hdem (fun hp=>hnp' ⟨hp,by rw [hdst];simp;exact fun h=>he h.symm⟩)
       rw [e2]
       exact this
    ·
     simp only [hw,jN,dZ]
     have hput:=aDv.put hinv hf hN hdd (aBz (hok k o ho)) (av:=.tup []) (v:=undef) (.tup #[] [] rfl (fun i v a hv=>by simp at hv))
     refine ih _ r (k :: done') _ σ _ w hleft hrest hall2 ⟨by simpa using hsz,hdc',hsub2,fun q hq hLq=>?_,?_⟩ hx h12
     ·
      rcases eT.1 hq with he | hq
      ·
       exact absurd he (hunset q hLq).2
      ·
       obtain ⟨oq,dq,hoq,hdq,hyq⟩:=hdi'.ya q hq (hunset q hLq).1
       have hapq:aCY ops k q=true:=by
        have:=cI.1 hap q hq
        simp only [eC] at this
        rcases this with h | h
        ·
         exact h
        ·
         have:=hwaits q h
         rw [(hunset q hLq).1] at this
         cases this
       refine ⟨oq,dq,hoq,hdq,?_⟩
       rw [aE8]
       have e3:wQ fr'.get o.dst (.tup []) dq=fr'.get dq:=by
        cases hdst:o.dst with
        | none=>rfl
        | some e =>
         simp only [wQ]
         rw [aY]
         rintro rfl
         rcases (aEj ho hoq hdst hapq).2 with h | h
         ·
          exact hknd (h ▸ hq)
         ·
          exact h hdq
       rw [e3]
       exact (YA.put (fun e he=>(aEj ho hoq he hapq).1)).2 hyq
     ·
      obtain ⟨g',hinv',hf',hN',hdd'⟩:=hput
      refine ⟨g',hinv',fun e=>?_,hN',hdd'⟩
      have:=hf' e
      unfold aAk
      split
      ·
       exact .any
      ·
       rename_i hnp
       have hnp':¬(aQT ops L done' e∧o.dst≠some e):=by
        rintro ⟨⟨q,hq,hLq,oq,hoq,hdq⟩,hne⟩
        refine hnp ⟨q,iZ _ hq,?_,oq,hoq,hdq⟩
        rw [hL' q,aY]
        ·
         exact hLq
        ·
         intro he;exact hknd (he ▸ hq)
       have e2:(fr'.put o.dst (.tup [])).get e=wQ (aAk ops L done' fr') o.dst (.tup []) e:=by
        rw [aE8]
        have h0:¬aQT ops L done' e→aAk ops L done' fr' e=fr'.get e:=fun hp=>by unfold aAk;rw [aY hp]
        cases hdst:o.dst with
        | none=>exact (h0 (fun hp=>hnp' ⟨hp,by rw [hdst];simp⟩)).symm
        | some q =>
         simp only [wQ]
         by_cases he:e=q
         ·
          rw [bB he,bB he]
         ·
          rw [aY he,aY he]
          exact (h0 (fun hp=>hnp' ⟨hp,by rw [hdst];simp;exact fun h=>he h.symm⟩)).symm
       rw [e2]
       exact this
theorem aNB {P:Program}{c:Ctx}{N:Nat}{ops:Array Oper}{σ:St}{fr:Fr}{pl:List PI}{K:Fr→St→Prop}{Q:Exit→Act→World→Prop}{rk:Nat→Nat} (h1:okL ops pl []=true) (h2:((List.range ops.size).all fun i=>pl.any fun x=>x.ix==i)=true)
  (h3:∀ i,i<ops.size→∃ o,ops[i]?=some o∧∀ e∈o.after,Region.binds .any e=true→e.on<ops.size∧rk e.on<rk i) (hok:∀ (i:Nat) o,ops[i]?=some o→aDF N o=true)
  (h:ad P ops pl fr σ K) {a:Act}{w:World} (hs:Sim c N a w fr σ) (hQ:∀ a w fr σ,K fr σ→Sim c N a w fr σ→Q .normal a w):wpAny P .any ops Q ops.size (Array.replicate ops.size false) a { w with drawn:=w.drawn+1 }:=by
 obtain ⟨g,hi,hf,hN,hd⟩:=hs
 obtain ⟨hi',st⟩:=hi.drew
 have hrep:∀ i,(Array.replicate ops.size false).getD i false=false:=by
  intro i
  rw [dY]
  cases h:(Array.replicate ops.size false)[i]? with
  | none=>rfl
  | some b=>rw [Array.getElem?_replicate] at h;split at h <;> simp_all
 refine aRv (c:=c) (N:=N) (K:=K) hok h3 hQ ops.size _ pl [] fr σ a _ (aJH _ _) h1 (fun i hi=>?_) ⟨by simp,fun k o ho hl=>(by rw [hrep] at hl;cases hl),fun i hl=>(by rw [hrep] at hl;cases hl),fun q hq=>(by simp at hq),⟨g,hi',fun d=>?_,hN,hd⟩⟩ h (fun q hq=>by simp at hq)
 ·
  have:=cI.1 h2 i (fE.2 hi)
  obtain ⟨x,hx,hxi⟩:=List.any_eq_true.1 this
  exact .inr ⟨x,hx,by simpa using hxi⟩
 ·
  have:=(hf d).stp st
  unfold aAk
  rw [aY]
  ·
   exact this
  ·
   rintro ⟨q,hq,_⟩
   cases hq
theorem aO7 {P:Program}{c:Ctx}{N:Nat}{ops:Array Oper}{id:Nat}{σ:St}{fr:Fr}{pl:List PI}{K:Fr→St→Prop}{Q:Exit→Act→World→Prop} (hm:P.follows .mixedOrders=true) (hB:aHB ops pl=true) (hok:∀ o∈ops.toList,aDF N o=true)
  (h:ad P ops pl fr σ K) {a:Act}{w:World} (hs:Sim c N a w fr σ) (hQ:∀ a w fr σ,K fr σ→Sim c N a w fr σ→Q .normal a w):(Code.region id ops true).wp P Q a w:=by
 simp only [aHB,aR] at hB
 obtain ⟨⟨h1,h2⟩,h3⟩:=hB
 refine wp_region_any hm (aNB (rk:=fun i=>i) h1 h2 (fun i hi=>?_) (fun i o ho=>hok o (by rw [← dS] at ho;exact dA ho)) h hs hQ)
 have:=cI.1 h3 i (fE.2 hi)
 cases ho:ops[i]? with
 | none=>rw [ho] at this;cases this
 | some o =>
  rw [ho] at this
  refine ⟨o,rfl,fun e he hb=>?_⟩
  have:=Array.all_eq_true'.1 this e he
  simp only [eC,gP,hb,Bool.true_eq_false,false_or,bU] at this
  exact ⟨by omega,this⟩
theorem aOp {P:Program}{dst:Option Tmp}{fv:AV}{args:List AV}{fr:Fr}{σ:St}{K K':Fr→St→Prop} (hk:∀ fr σ,K fr σ→K' fr σ):aH6 P dst fv args fr σ K→aH6 P dst fv args fr σ K':=by
 unfold aH6
 split
 ·
  rintro ⟨d,ids,lt,as,σc,r,σr,h1,h2,h3,h4,h5,h6,h7⟩
  exact ⟨d,ids,lt,as,σc,r,σr,h1,h2,h3,h4,h5,h6,hk _ _ h7⟩
 ·
  exact id
theorem aMQ {P:Program}{o:Oper}{fr:Fr}{σ:St}{K K':Fr→St→Prop} (hk:∀ fr σ,K fr σ→K' fr σ):aop P o fr σ K→aop P o fr σ K':=by
 unfold aop
 split
 ·
  exact aOp hk
 ·
  split
  ·
   unfold aOt
   repeat' split
   all_goals first | exact fun h=>⟨h.1,fun b hb=>hk _ _ (h.2 b hb)⟩ | exact fun h=>⟨h.1,hk _ _ h.2⟩ | exact id
  ·
   exact aLf (fun dm v σ=>hk _ _)
theorem aCG {ops:List Oper}{o:Oper}{get:Nat→AV}{y y' n n':Prop} (hy:y→y') (hn:n→n'):qW ops o get y n→qW ops o get y' n':=by
 unfold qW
 repeat' split
 all_goals first | exact hy | exact hn | exact fun h=>⟨fun e=>hy (h.1 e),fun e=>hn (h.2 e)⟩ | exact id
theorem aDw {P:Program}{ops:Array Oper}{K K':Fr→St→Prop} (hk:∀ fr σ,K fr σ→K' fr σ):∀ (pl:List PI) (fr:Fr) (σ:St),ad P ops pl fr σ K→ad P ops pl fr σ K'
 | [],fr,σ=>hk fr σ
 | .q i :: r,fr,σ=>by
  simp only [ad]
  cases ops[i]? with
  | none=>exact id
  | some o=>exact aCG (fun ⟨v,h1,h2⟩=>⟨v,h1,aDw hk r _ σ h2⟩) (aDw hk r _ σ)
 | .n i rl :: r,fr,σ=>by
  simp only [ad]
  cases ops[i]? with
  | none=>exact id
  | some o=>exact aCG (aMQ fun fr' σ' ⟨h1,h2⟩=>⟨h1,aDw hk r fr' σ' h2⟩) (aDw hk r _ σ)
def VL (ops:Array Oper):List Nat→Array Bool→Prop
 | [],L=>Region.ready .any ops L=[]
 | k :: l,L=>k∈Region.ready .any ops L∧VL ops l (L.setIfInBounds k true)
theorem aKA {P:Program}{ops:Array Oper}{Q:Exit→Act→World→Prop}:∀ (l:List Nat) (n:Nat) (L:Array Bool) (a:Act) (w:World),wpAny P .any ops Q n L a w→VL ops l L→l.length≤n→wpOps P ops Q l a w
 | [],n,L,a,w,h,hv,_=>by
  have hv:Region.ready .any ops L=[]:=hv
  cases n with
  | zero=>simpa [wpOps] using h.2
  | succ n=>simpa [wpOps] using h.1 hv
 | k :: l,0,L,a,w,h,hv,hl=>by simp at hl
 | k :: l,n+1,L,a,w,h,hv,hl=>by
  rw [wpOps_cons]
  exact wpOp_mono (fun a w hh=>aKA l n _ a w hh hv.2 (by simpa using hl)) (h.2 k hv.1)
theorem aNm {L:Array Bool}{i:Nat}:∀ {n:Nat},i<n→L.getD i false=false→0<left L n
 | 0,h,_=>by omega
 | n+1,h,hL=>by
  simp only [left]
  by_cases he:i=n
  ·
   subst he;rw [hL];simp
  ·
   have:=aNm (n:=n) (by omega) hL
   omega
theorem aUb {ops:Array Oper}:∀ (fuel t:Nat) (L:Array Bool),L.size=ops.size→left L ops.size≤fuel→VL ops (Region.linearise.go .any ops fuel t L []) L∧(Region.linearise.go .any ops fuel t L []).length≤fuel
 | 0,t,L,hs,hl=>by
  refine ⟨?_,by simp [Region.linearise.go]⟩
  simp only [Region.linearise.go,List.reverse_nil]
  refine oC.2 fun i hi=>?_
  obtain ⟨h1,h2⟩:=aEB hi
  have:=aNm h1 (show L.getD i false=false by
   have h3:i<L.size:=by omega
   simp [dY,h3] at h2 ⊢
   exact h2)
  omega
 | fuel+1,t,L,hs,hl=>by
  simp only [Region.linearise.go]
  change VL ops (match (Region.ready .any ops L)[t % (Region.ready .any ops L).length]? with | some i=>Region.linearise.go .any ops fuel (t / (Region.ready .any ops L).length) (L.setIfInBounds i true) [i] | none=>[].reverse) L∧(match (Region.ready .any ops L)[t % (Region.ready .any ops L).length]? with | some i=>Region.linearise.go .any ops fuel (t / (Region.ready .any ops L).length) (L.setIfInBounds i true) [i] | none=>[].reverse).length≤fuel+1
  cases hi:(Region.ready .any ops L)[t % (Region.ready .any ops L).length]? with
  | none =>
   have hnil:Region.ready .any ops L=[]:=by
    cases hr:Region.ready .any ops L with
    | nil=>rfl
    | cons x xs =>
     rw [hr] at hi
     have hlt:t % (x :: xs).length<(x :: xs).length:=Nat.mod_lt _ (by simp)
     simp at hi
     simp at hlt
     omega
   simp only [List.reverse_nil]
   exact ⟨hnil,by simp⟩
  | some i =>
   simp only []
   rw [linearise_go_acc,List.reverse_singleton,List.singleton_append]
   have hm:=dA hi
   obtain ⟨h1,h2⟩:=aEB hm
   have h3:i<L.size:=by omega
   have h4:L.getD i false=false:=by
    simp [dY,h3] at h2 ⊢
    exact h2
   have h5:=aJI h3 h4 ops.size
   rw [bB h1] at h5
   obtain ⟨g1,g2⟩:=aUb (ops:=ops) fuel (t / (Region.ready .any ops L).length) (L.setIfInBounds i true) (by simp [hs]) (by omega)
   exact ⟨⟨hm,g1⟩,by simpa using g2⟩
def aLj (i:Nat) (o:Oper):Oper:={ o with after:=o.after.push { on:=i,ground:=.data } }
def aAV (ops:Array Oper) (i j:Nat):Array Oper:=(ops.toList.mapIdx fun k o=>if k=j then aLj i o else o).toArray
theorem aHu (ops:Array Oper) (i j:Nat):(aAV ops i j).size=ops.size:=by simp [aAV]
theorem aAq (ops:Array Oper) (i j k:Nat):(aAV ops i j)[k]?=(ops[k]?).map fun o=>if k=j then aLj i o else o:=by
 unfold aAV
 rw [pP,List.getElem?_mapIdx,dS]
theorem aPa {ops:Array Oper}{i j k:Nat}{L:Array Bool} (h:k∈Region.ready .any ops L) (hk:k=j→L.getD i false=true):k∈Region.ready .any (aAV ops i j) L:=by
 unfold Region.ready at h ⊢
 obtain ⟨h1,h2⟩:=pI.1 h
 refine pI.2 ⟨by rw [aHu];exact h1,?_⟩
 rw [aAq]
 cases ho:ops[k]? with
 | none=>simp [ho] at h2
 | some o =>
  rw [ho] at h2
  simp only [eO,eR,aR] at h2 ⊢
  refine ⟨h2.1,?_⟩
  split
  ·
   rename_i e
   unfold aLj
   simp only [Array.all_push,aR]
   exact ⟨h2.2,by rw [hk e,Bool.or_true]⟩
  ·
   exact h2.2
theorem aKN {ops:Array Oper}{i j k:Nat}{L:Array Bool} (h:k∈Region.ready .any (aAV ops i j) L):k∈Region.ready .any ops L:=by
 unfold Region.ready at h ⊢
 obtain ⟨h1,h2⟩:=pI.1 h
 refine pI.2 ⟨by rw [aHu] at h1;exact h1,?_⟩
 rw [aAq] at h2
 cases ho:ops[k]? with
 | none=>simp [ho] at h2
 | some o =>
  rw [ho] at h2
  simp only [eO,eR,aR] at h2 ⊢
  refine ⟨h2.1,?_⟩
  have h3:=h2.2
  split at h3
  ·
   unfold aLj at h3
   simp only [Array.all_push,aR] at h3
   exact h3.1
  ·
   exact h3
def bef (i j:Nat):List Nat→Prop
 | []=>True
 | k :: l=>k=i∨(k≠j∧bef i j l)
theorem aRA (i j:Nat):∀ l,bef i j l∨bef j i l
 | []=>.inl trivial
 | k :: l=>by
  by_cases h1:k=i
  ·
   exact .inl (.inl h1)
  ·
   by_cases h2:k=j
   ·
    exact .inr (.inl h2)
   ·
    rcases aRA i j l with h | h
    ·
     exact .inl (.inr ⟨h2,h⟩)
    ·
     exact .inr (.inr ⟨h1,h⟩)
theorem aLI {ops:Array Oper}{i j:Nat} (hij:i≠j):∀ (l:List Nat) (L:Array Bool),L.size=ops.size→VL ops l L→(L.getD i false=true∨bef i j l)→VL (aAV ops i j) l L
 | [],L,hs,h,_=>by
  have h:Region.ready .any ops L=[]:=h
  refine oC.2 fun k hk=>?_
  have:=aKN hk
  rw [h] at this
  cases this
 | k :: l,L,hs,h,hb=>by
  obtain ⟨h1,h2⟩:=h
  have hlt:=(aEB h1).1
  have hset:∀ x,L.getD x false=true→(L.setIfInBounds k true).getD x false=true:=fun x hx=>by
   rw [aG3 (by omega)];split <;> simp [hx]
  refine ⟨aPa h1 fun e=>?_,aLI hij l _ (by simp [hs]) h2 ?_⟩
  ·
   rcases hb with hb | hb
   ·
    exact hb
   ·
    rcases hb with hb | hb
    ·
     exact absurd (hb.symm.trans e) hij
    ·
     exact absurd e hb.1
  ·
   rcases hb with hb | hb
   ·
    exact .inl (hset _ hb)
   ·
    rcases hb with hb | hb
    ·
     subst hb
     exact .inl (by rw [aG3 (by omega),bB rfl])
    ·
     exact .inr hb.2
theorem aAW (k j i:Nat) (o:Oper):∃ af,(if k=j then aLj i o else o)={ o with after:=af }:=by
 split
 ·
  exact ⟨_,rfl⟩
 ·
  exact ⟨o.after,rfl⟩
theorem aLX (ops:Array Oper) (i j:Nat) (tmps:Array Value):yielded (aAV ops i j) tmps=yielded ops tmps:=by
 funext k
 have:((aAV ops i j)[k]?).bind (·.dst)=(ops[k]?).bind (·.dst):=by
  rw [aAq]
  cases ops[k]? with
  | none=>rfl
  | some o =>
   obtain ⟨af,e⟩:=aAW k j i o
   simp only [eO,e,aA]
 simp only [yielded,this]
theorem aQF {P:Program}{ops:Array Oper}{Q:Exit→Act→World→Prop} (i j k:Nat) (K:Act→World→Prop) (a:Act) (w:World):wpOp P (aAV ops i j) Q k K a w=wpOp P ops Q k K a w:=by
 unfold wpOp
 rw [aAq,aLX]
 cases ops[k]? with
 | none=>rfl
 | some o =>
  obtain ⟨af,e⟩:=aAW k j i o
  simp only [eO,e]
  rfl
theorem aFL {P:Program}{ops:Array Oper}{Q:Exit→Act→World→Prop} (i j:Nat):∀ (l:List Nat) (a:Act) (w:World),wpOps P (aAV ops i j) Q l a w=wpOps P ops Q l a w
 | [],a,w=>rfl
 | k :: l,a,w=>by
  rw [wpOps_cons,wpOps_cons,aQF]
  congr 1
  funext a w
  exact aFL i j l a w
theorem aLb {P:Program}{ops:Array Oper}{Q:Exit→Act→World→Prop}{id:Nat}{a:Act}{w:World}{i j:Nat} (hij:i≠j) (hm:P.follows .mixedOrders=true)
  (h1:wpAny P .any (aAV ops i j) Q ops.size (Array.replicate ops.size false) a { w with drawn:=w.drawn+1 }) (h2:wpAny P .any (aAV ops j i) Q ops.size (Array.replicate ops.size false) a { w with drawn:=w.drawn+1 }):(Code.region id ops true).wp P Q a w :=
 wp_region_draw fun t=>by
  simp only [Region.schedule,hm,sY,cL]
  obtain ⟨g1,g2⟩:=aUb (ops:=ops) ops.size t (Array.replicate ops.size false) (by simp) (by rw [aJH];omega)
  show wpOps P ops Q (Region.linearise.go .any ops ops.size t (Array.replicate ops.size false) []) a _
  rcases aRA i j (Region.linearise.go .any ops ops.size t (Array.replicate ops.size false) []) with hb | hb
  ·
   rw [← aFL i j]
   exact aKA _ _ _ _ _ h1 (aLI hij _ _ (by simp) g1 (.inr hb)) g2
  ·
   rw [← aFL j i]
   exact aKA _ _ _ _ _ h2 (aLI hij.symm _ _ (by simp) g1 (.inr hb)) g2
theorem aNe (ops:Array Oper) (i j k:Nat):(aAV ops i j).toList[k]?=(ops.toList[k]?).map fun o=>if k=j then aLj i o else o:=by
 rw [dS,dS,aAq]
theorem aQn {P:Program}{dst:Option Tmp}{op:Op}{ty:TypeId}{pos:String}{af af':Array Edge}{gd:Option (Nat × Bool)}{fr:Fr}{σ:St}{K:Fr→St→Prop}:aop P ⟨dst,op,ty,pos,af,gd⟩ fr σ K=aop P ⟨dst,op,ty,pos,af',gd⟩ fr σ K:=by
 cases op
 case call c=>obtain ⟨callee,args,argTypes⟩:=c;cases callee <;> first | rfl | (rename_i b;cases b <;> rfl)
 case slice t x lo hi mx=>cases mx <;> rfl
 case makeFunc fn f cs=>cases fn <;> rfl
 all_goals rfl
theorem aMH {P:Program}{dst:Option Tmp}{op:Op}{ty:TypeId}{pos:String}{af af':Array Edge}{gd:Option (Nat × Bool)}{ev:Operand→AV}{σ:St}{v:AV}:AQ P ⟨dst,op,ty,pos,af,gd⟩ ev σ v=AQ P ⟨dst,op,ty,pos,af',gd⟩ ev σ v:=by
 cases op
 case call c=>obtain ⟨callee,args,argTypes⟩:=c;cases callee <;> first | rfl | (rename_i b;cases b <;> rfl)
 case slice t x lo hi mx=>cases mx <;> rfl
 case makeFunc fn f cs=>cases fn <;> rfl
 all_goals rfl
theorem aEi {ops:Array Oper}{i j:Nat}{o:Oper}{af:Array Edge}{get:Nat→AV}{y n:Prop}:qW (aAV ops i j).toList { o with after:=af } get y n=qW ops.toList o get y n:=by
 unfold qW
 cases hg:o.guard with
 | none=>rfl
 | some p =>
  obtain ⟨k,want⟩:=p
  simp only
  rw [aNe]
  cases ops.toList[k]? with
  | none=>rfl
  | some q =>
   obtain ⟨af',e⟩:=aAW k j i q
   simp only [eO,e]
theorem aPA {P:Program}{ops:Array Oper}{i j:Nat}{σ:St}{o:Oper}{af:Array Edge}{v:AV}{F:Nat→AV}:YA P (aAV ops i j) σ { o with after:=af } v F=YA P ops σ o v F:=by
 unfold YA
 rw [aEi]
 obtain ⟨dst,op,ty,pos,a0,gd⟩:=o
 rw [aMH (af':=a0)]
theorem aRs {P:Program}{ops:Array Oper}{i j:Nat}{σ:St}{q:Nat}{fr:Fr}:YAf P (aAV ops i j) σ q fr=YAf P ops σ q fr:=by
 unfold YAf
 rw [aAq]
 cases hq:ops[q]? with
 | none=>simp
 | some o =>
  obtain ⟨af,e⟩:=aAW q j i o
  simp only [eO,e,dB]
  refine propext ⟨?_,?_⟩
  ·
   rintro ⟨_,d,rfl,h1,h2⟩
   exact ⟨o,d,rfl,h1,by rw [aPA] at h2;exact h2⟩
  ·
   rintro ⟨_,d,rfl,h1,h2⟩
   exact ⟨_,d,rfl,h1,by rw [aPA];exact h2⟩
theorem aPz {P:Program}{ops:Array Oper}{i j:Nat}{σ:St}{fr:Fr}:∀ (l:List Nat),RC P (aAV ops i j) σ fr l=RC P ops σ fr l
 | []=>rfl
 | q :: r=>by simp only [RC,aRs,aPz r]
theorem aLN {P:Program}{ops:Array Oper}{i j:Nat}{K:Fr→St→Prop}:∀ (pl:List PI) (fr:Fr) (σ:St),ad P (aAV ops i j) pl fr σ K=ad P ops pl fr σ K
 | [],fr,σ=>rfl
 | .q k :: r,fr,σ=>by
  simp only [ad,aAq]
  cases hq:ops[k]? with
  | none=>rfl
  | some o =>
   obtain ⟨af,e⟩:=aAW k j i o
   simp only [eO,e,aEi]
   obtain ⟨dst,op,ty,pos,a0,gd⟩:=o
   simp only [aMH (af:=af) (af':=a0),aLN r]
 | .n k rl :: r,fr,σ=>by
  simp only [ad,aAq]
  cases hq:ops[k]? with
  | none=>rfl
  | some o =>
   obtain ⟨af,e⟩:=aAW k j i o
   simp only [eO,e,aEi]
   obtain ⟨dst,op,ty,pos,a0,gd⟩:=o
   simp only [aQn (af:=af) (af':=a0),aLN r,aPz]
def aU0 (pl:List PI) (k:Nat):Nat:=(pl.map PI.ix).idxOf k
def aLt (ops:Array Oper) (pl:List PI):Bool :=
 okL ops pl []&&((List.range ops.size).all fun i=>pl.any fun x=>x.ix==i) &&
 ((List.range ops.size).all fun i=>match ops[i]? with | some o=>o.after.toList.all fun e=>!Region.binds .any e||(Nat.blt e.on ops.size&&Nat.blt (aU0 pl e.on) (aU0 pl i)) | _=>false)
theorem aLu {P:Program}{c:Ctx}{N:Nat}{ops:Array Oper}{i j:Nat}{σ:St}{fr:Fr}{pl:List PI}{K:Fr→St→Prop}{Q:Exit→Act→World→Prop} (hB:aLt (aAV ops i j) pl=true) (hok:∀ o∈ops.toList,aDF N o=true)
  (h:ad P ops pl fr σ K) {a:Act}{w:World} (hs:Sim c N a w fr σ) (hQ:∀ a w fr σ,K fr σ→Sim c N a w fr σ→Q .normal a w):wpAny P .any (aAV ops i j) Q ops.size (Array.replicate ops.size false) a { w with drawn:=w.drawn+1 }:=by
 simp only [aLt,aR] at hB
 obtain ⟨⟨h1,h2⟩,h3⟩:=hB
 have:=aNB (P:=P) (c:=c) (N:=N) (ops:=aAV ops i j) (rk:=aU0 pl) (K:=K) (Q:=Q) (fr:=fr) (σ:=σ) h1 h2 (fun k hk=>?_) (fun k o ho=>?_) (by rw [aLN];exact h) hs hQ
 ·
  rw [aHu] at this
  exact this
 ·
  have:=cI.1 h3 k (fE.2 hk)
  cases ho:(aAV ops i j)[k]? with
  | none=>rw [ho] at this;cases this
  | some o =>
   rw [ho] at this
   refine ⟨o,rfl,fun e he hb=>?_⟩
   have:=cI.1 this e (by simpa using he)
   simp only [eC,gP,hb,Bool.true_eq_false,false_or,aR,Nat.blt_eq] at this
   exact this
 ·
  rw [aAq] at ho
  cases hq:ops[k]? with
  | none=>rw [hq] at ho;cases ho
  | some o' =>
   obtain ⟨af,e⟩:=aAW k j i o'
   rw [hq] at ho
   simp only [eO,e,dB] at ho
   subst ho
   exact hok o' (by rw [← dS] at hq;exact dA hq)
theorem aSo {P:Program}{c:Ctx}{N:Nat}{ops:Array Oper}{id i j:Nat}{σ:St}{fr:Fr}{pl pl':List PI}{K:Fr→St→Prop}{Q:Exit→Act→World→Prop} (hm:P.follows .mixedOrders=true) (hij:i≠j) (hB:aLt (aAV ops i j) pl=true) (hB':aLt (aAV ops j i) pl'=true) (hok:∀ o∈ops.toList,aDF N o=true)
  (h:ad P ops pl fr σ K) (h':ad P ops pl' fr σ K) {a:Act}{w:World} (hs:Sim c N a w fr σ) (hQ:∀ a w fr σ,K fr σ→Sim c N a w fr σ→Q .normal a w):(Code.region id ops true).wp P Q a w :=
 aLb hij hm (aLu hB hok h hs hQ) (aLu hB' hok h' hs hQ)
def aPy (P:Program) (ops:Array Oper) (fr:Fr) (σ:St) (K:Fr→St→Prop):Prop :=
 (∃ pl,aHB ops pl=true∧ad P ops pl fr σ K)∨∃ i j pl pl',i≠j∧aLt (aAV ops i j) pl=true∧aLt (aAV ops j i) pl'=true∧ad P ops pl fr σ K∧ad P ops pl' fr σ K
theorem aMR {P:Program}{c:Ctx}{N:Nat}{ops:Array Oper}{id:Nat}{σ:St}{fr:Fr}{K:Fr→St→Prop}{Q:Exit→Act→World→Prop} (hm:P.follows .mixedOrders=true) (h:aPy P ops fr σ K) (hok:∀ o∈ops.toList,aDF N o=true)
  {a:Act}{w:World} (hs:Sim c N a w fr σ) (hQ:∀ a w fr σ,K fr σ→Sim c N a w fr σ→Q .normal a w):(Code.region id ops true).wp P Q a w:=by
 rcases h with ⟨pl,hB,h⟩ | ⟨i,j,pl,pl',hij,hB,hB',h,h'⟩
 ·
  exact aO7 hm hB hok h hs hQ
 ·
  exact aSo hm hij hB hB' hok h h' hs hQ
theorem aOA {P:Program}{ops:Array Oper}{K K':Fr→St→Prop} (hk:∀ fr σ,K fr σ→K' fr σ) {fr:Fr}{σ:St}:aPy P ops fr σ K→aPy P ops fr σ K':=by
 rintro (⟨pl,h1,h2⟩ | ⟨i,j,pl,pl',hij,h1,h2,h3,h4⟩)
 ·
  exact .inl ⟨pl,h1,aDw hk _ _ _ h2⟩
 ·
  exact .inr ⟨i,j,pl,pl',hij,h1,h2,aDw hk _ _ _ h3,aDw hk _ _ _ h4⟩
def prune (V:List Nat) (fr:Fr):Fr:=match V with
 | []=>[]
 | i :: V=>match fr.get i with
  | .any=>prune V fr
  | a=>(i,a) :: prune V fr
theorem aHC (V:List Nat) (fr:Fr) (d:Nat):(prune V fr).get d=if d∈V then fr.get d else .any:=by
 induction V with
 | nil=>rfl
 | cons i V ih =>
  simp only [prune]
  split
  ·
   rename_i h
   rw [ih]
   by_cases e:d=i
   ·
    subst e;simp [h]
   ·
    simp [e]
  ·
   simp only [Fr.get,ih,eT]
   by_cases e:d=i
   ·
    subst e;simp
   ·
    simp [e]
theorem Sim.prune {c:Ctx}{N:Nat}{a:Act}{w:World}{fr:Fr}{σ:St} (V:List Nat) (h:Sim c N a w fr σ):Sim c N a w (prune V fr) σ:=by
 obtain ⟨g,hi,hf,hN,hd⟩:=h
 refine ⟨g,hi,fun d=>?_,hN,hd⟩
 rw [aHC]
 split
 ·
  exact hf d
 ·
  exact .any
def pX (k0:Nat) (fr:Fr) (σ:St) (fr':Fr) (σ':St):Prop:=∀ c g w tmps,c.β0.length=k0→tT c g w σ→yV g w tmps fr→∃ g',tT c g' w σ'∧yV g' w tmps fr'
theorem pX.refl (k0:Nat) (fr:Fr) (σ:St):pX k0 fr σ fr σ:=fun c g w tmps _ hi hf=>⟨g,hi,hf⟩
theorem pX.trans {k0:Nat}{fr fr' fr'':Fr}{σ σ' σ'':St} (h:pX k0 fr σ fr' σ') (h':pX k0 fr' σ' fr'' σ''):pX k0 fr σ fr'' σ'':=fun c g w tmps hk hi hf=>by
 obtain ⟨g1,hi1,hf1⟩:=h c g w tmps hk hi hf
 exact h' c g1 w tmps hk hi1 hf1
theorem pX.slots {k0:Nat}{fr fr':Fr}{σ:St} (h:∀ d,(fr.get d).le (fr'.get d)):pX k0 fr σ fr' σ:=fun c g w tmps _ hi hf=>⟨g,hi,fun d=>h d _ _ _ (hf d)⟩
def AV.inB (m:Nat):AV→Bool
 | .box id _=>decide (id<m)
 | .ptrs l=>l.all fun p=>decide (p.1<m)
 | .pptr p=>decide (p.1<m)
 | .view id _ _=>decide (id<m)
 | .agg cs=>inBL m cs
 | .tup cs=>inBL m cs
 | .fn _ cs=>inBL m cs
 | _=>true
where inBL (m:Nat):List AV→Bool
 | []=>true
 | a :: as=>AV.inB m a&&inBL m as
theorem aB8 {m:Nat}:∀ {l:List AV},AV.inB.inBL m l=true→∀ (i:Nat) a,l[i]?=some a→a.inB m=true
 | [],_,i,a,h=>by simp at h
 | x :: xs,h,i,a,hi=>by
  simp only [AV.inB.inBL,aR] at h
  cases i with
  | zero=>simp at hi;subst hi;exact h.1
  | succ i=>simp at hi;exact aB8 h.2 i a hi
theorem nA.inB {g g':G}{w:World}{v:Value}{a:AV}{m:Nat} (hI:g'.I=g.I) (hτ:g'.τ=g.τ) (hβ:∀ (k b:Nat),k<m→g.β[k]?=some b→g'.β[k]?=some b) (h:nA g w v a):a.inB m=true→nA g' w v a:=by
 induction h with
 | c h=>exact fun _=>.c (hI ▸ h)
 | nil=>exact fun _=>.nil
 | own t sz xs h =>
  intro _
  obtain ⟨h0,hs,e,cells,ho,hv,hb⟩:=h
  exact .own _ sz xs ⟨h0,hs,e,cells,ho,fun i j x p hx hp=>by rw [hI];exact hv i j x p hx hp,fun b hb'=>⟨by rw [hτ];exact (hb b hb').1,fun o=>by rw [hI];exact (hb b hb').2 o⟩⟩
 | agg vs cs h _ ih=>exact fun hb=>.agg vs cs h (fun i v a hv ha=>ih i v a hv ha (aB8 (by simpa [AV.inB] using hb) i a ha))
 | tup vs cs h _ ih=>exact fun hb=>.tup vs cs h (fun i v a hv ha=>ih i v a hv ha (aB8 (by simpa [AV.inB] using hb) i a ha))
 | box id off b h=>exact fun hb=>.box id off b (hβ _ _ (by simpa [AV.inB] using hb) h)
 | eptr b o off cs vs hc hv=>exact fun _=>.eptr b o off cs vs (fun j hj=>by rw [hI];exact hc j hj) (fun j p hp=>by rw [hI];exact hv j p hp)
 | view id off n b cap h hn=>exact fun hb=>.view id off n b cap (hβ _ _ (by simpa [AV.inB] using hb) h) hn
 | mrow t sz xs h =>
  intro _
  obtain ⟨h0,hs,e,cells,ho,hv,hb⟩:=h
  exact .mrow _ sz xs ⟨h0,hs,e,cells,ho,fun i j x p hx hp=>by rw [hI];exact hv i j x p hx hp,fun b hb'=>⟨by rw [hτ];exact (hb b hb').1,fun o=>by rw [hI];exact (hb b hb').2 o⟩⟩
 | mptr t sz i off row h =>
  intro _
  obtain ⟨b,cur,e,hv,ht,hIn,hl,hc,hh,hr⟩:=h
  exact .mptr t sz i off row ⟨b,cur,e,hv,by rw [hτ];exact ht,fun o=>by rw [hI];exact hIn o,hl,hc,hh,fun j p hp=>by rw [hI];exact hr j p hp⟩
 | ptrs b o cap l hcap hc =>
  intro hb
  refine .ptrs b o cap l hcap (fun i p hp=>?_)
  obtain ⟨h1,bk,h2,h3⟩:=hc i p hp
  simp only [AV.inB,cI] at hb
  exact ⟨by rw [hI];exact h1,bk,hβ _ _ (by simpa using hb p (dA hp)) h2,h3⟩
 | pptr b o bk p hi hb hc=>exact fun hbb=>.pptr b o bk p (by rw [hI];exact hi) (hβ _ _ (by simpa [AV.inB] using hbb) hb) hc
 | fn k vs cs h _ ih=>exact fun hb=>.fn k vs cs h (fun i v a hv ha=>ih i v a hv ha (aB8 (by simpa [AV.inB] using hb) i a ha))
 | nilptr=>exact fun _=>.nilptr
 | any=>exact fun _=>.any
theorem pX.take {k0 m:Nat}{fr:Fr}{σ:St} (hm:k0≤m) (hf:∀ d,(fr.get d).inB m=true) (hs:∀ (i:Nat) cs,i<m→σ[i]?=some cs→AV.inB.inBL m cs=true):pX k0 fr σ fr (σ.take m):=by
 intro c g w tmps hk hi hfr
 let g':G:={ g with β:=g.β.take m }
 have hβ:∀ (k b:Nat),k<m→g.β[k]?=some b→g'.β[k]?=some b:=fun k b hk hb=>by show (g.β.take m)[k]?=some b;rw [eX hk];exact hb
 have hmem:∀ b,b∈g.β.take m→b∈g.β:=fun b hb=>lA hb
 refine ⟨g',⟨hi.os,hi.tape,hi.output,hi.size,hi.old,hi.Ile,hi.Iold,hi.Ilt,?_,fun b hb=>hi.βnew b ?_,(List.take_sublist _ _).nodup hi.βnd,?_,fun b hb=>hi.βI b (hmem b hb),fun b hb=>hi.βlt b (hmem b hb),fun t b ht=>?_,hi.τinj,fun id cs b hs' hb=>?_,hi.cell0,hi.glo⟩,
  fun d=>nA.inB (g:=g) (g':=g') rfl rfl hβ (hfr d) (hf d)⟩
 ·
  show (g.β.take m).take c.β0.length=c.β0
  rw [tG,hk,Nat.min_eq_left hm,← hk]
  exact hi.βpre
 ·
  change b∈(g.β.take m).drop c.β0.length at hb
  rw [oF] at hb
  exact lA hb
 ·
  show (g.β.take m).length=(σ.take m).length
  simp [hi.βlen]
 ·
  obtain ⟨h1,h2,h3⟩:=hi.τnew t b ht
  exact ⟨h1,h2,fun hb=>h3 (hmem b hb)⟩
 ·
  rw [lZ] at hs'
  split at hs'
  ·
   rename_i hid
   change (g.β.take m)[id]?=some b at hb
   rw [eX hid] at hb
   obtain ⟨cur,e,hh,hr⟩:=hi.store id cs b hs' hb
   exact ⟨cur,e,hh,hr.1,fun i v a hv ha=>nA.inB (g:=g) (g':=g') rfl rfl hβ (hr.2 i v a hv ha) (aB8 (hs id cs hid hs') i a ha)⟩
  ·
   cases hs'
def aIh (k0:Nat) (body:(Exit→Fr→St→Prop)→Fr→St→Prop) (base:Fr→St→Prop) (Q:Exit→Fr→St→Prop):Nat→Fr→St→Prop
 | 0,fr,σ=>base fr σ
 | k+1,fr,σ=>body (fun e fr σ=>match e with | .normal=>∃ fr' σ',pX k0 fr σ fr' σ'∧aIh k0 body base Q k fr' σ' | e=>Q e fr σ) fr σ
def yW (P:Program) (V:List Nat) (k0:Nat):Code→(Exit→Fr→St→Prop)→Fr→St→Prop
 | .skip,Q,fr,σ=>Q .normal fr σ
 | .seq x y,Q,fr,σ=>yW P V k0 x (fun e fr σ=>match e with | .normal=>∃ fr' σ',pX k0 fr σ fr' σ'∧yW P V k0 y Q fr' σ' | e=>Q e fr σ) fr σ
 | .cond c x y,Q,fr,σ=>(match fr.ev c with | .c (.bool b)=>(b=true→yW P V k0 x Q fr σ)∧(b=false→yW P V k0 y Q fr σ) | _=>False)
 | .block id c,Q,fr,σ=>yW P V k0 c (fun e fr σ=>match e with | .exit id'=>if id'=id then Q .normal fr σ else Q (.exit id') fr σ | e=>Q e fr σ) fr σ
 | .exit id,Q,fr,σ=>Q (.exit id) fr σ
 | .ret,Q,fr,σ=>Q .ret fr σ
 | .loop c,Q,fr,σ=>∃ k,aIh k0 (yW P V k0 c) (fun fr σ=>∃ J:Nat→Fr→St→Prop,(∃ n fr' σ',pX k0 fr σ fr' σ'∧J n fr' σ')∧∀ n fr σ,J n fr σ→yW P V k0 c (fun e fr σ=>match e with | .normal=>∃ m fr' σ',m<n∧pX k0 fr σ fr' σ'∧J m fr' σ' | e=>Q e fr σ) fr σ) Q k fr σ
 | .region _ ops false,Q,fr,σ=>lS true P ops.toList ops.toList fr σ fun fr σ=>Q .normal (prune V fr) σ
 | .region _ ops true,Q,fr,σ=>(∃ pre,aOP ops pre=true∧aqs P ops.toList (ops.toList.take pre) fr σ fun fr'=>lS true P ops.toList (ops.toList.drop pre) fr' σ fun fr σ=>Q .normal (prune V fr) σ)∨aPy P ops fr σ fun fr σ=>Q .normal (prune V fr) σ
 | _,_,_,_=>False
def codeOk (N:Nat):Code→Bool
 | .seq x y=>codeOk N x&&codeOk N y
 | .cond _ x y=>codeOk N x&&codeOk N y
 | .block _ c=>codeOk N c
 | .loop c=>codeOk N c
 | .region _ ops _=>ops.toList.all (aDF N)
 | _=>true
def aLH (P:Program) (c:Code) (Q:Exit→Act→World→Prop) (a:Act) (w:World):Prop:=∀ b k cs,∃ e a' w',Q e a' w'∧Arrives P (lone (b.at a (.code c :: .inLoop c :: k)) cs w) b k cs e a' w'
theorem aPw {P:Program}{Q:Exit→Act→World→Prop}{a:Act}{w:World}{c:Code} (h:aLH P c Q a w):(Code.loop c).wp P Q a w:=by
 intro b k cs
 obtain ⟨e,a',w',hq,harr⟩:=h b k cs
 exact ⟨e,a',w',hq,.of_steps (.one step_loop) harr⟩
theorem aNk {P:Program}{Q:Exit→Act→World→Prop}{a:Act}{w:World}{c:Code} (h:c.wp P (Exit.then (fun a w=>aLH P c Q a w) Q) a w):aLH P c Q a w:=by
 intro b k cs
 obtain ⟨e,a₁,w₁,hq,harr⟩:=h b (.inLoop c :: k) cs
 cases e with
 | normal =>
  obtain ⟨e₂,a₂,w₂,hq₂,harr₂⟩:=hq b k cs
  exact ⟨e₂,a₂,w₂,hq₂,.of_steps (Steps.trans harr (.one step_inLoop)) harr₂⟩
 | exit id=>exact ⟨_,a₁,w₁,hq,.pass (x:=.inLoop c) rfl (fun _ _=>.inl (by simp)) harr⟩
 | goto l=>exact ⟨_,a₁,w₁,hq,.pass (x:=.inLoop c) rfl (fun _ _=>.inl (by simp)) harr⟩
 | ret=>exact ⟨_,a₁,w₁,hq,.pass (x:=.inLoop c) rfl (fun _ _=>.inl (by simp)) harr⟩
 | panic ch=>exact ⟨_,a₁,w₁,hq,.pass (x:=.inLoop c) rfl (fun _ _=>.inl (by simp)) harr⟩
 | outgrown=>exact ⟨_,a₁,w₁,hq,.pass (x:=.inLoop c) rfl (fun _ _=>.inl (by simp)) harr⟩
theorem aWb {P:Program}{Q:Exit→Act→World→Prop}{c:Code} (R:Nat→Act→World→Prop)
  (round:∀ n a w,R n a w→c.wp P (Exit.then (fun a' w'=>∃ m,m<n∧R m a' w') Q) a w):∀ n a w,R n a w→aLH P c Q a w:=by
 intro n
 induction n using Nat.strongRecOn with
 | _ n ih =>
  intro a w hI
  refine aNk (wp_mono (round n a w hI) fun e a' w' he=>?_)
  cases e with
  | normal=>obtain ⟨m,hlt,hR⟩:=he;exact ih m hlt a' w' hR
  | _=>exact he
theorem aQs {P:Program}{V:List Nat}{c:Ctx}{N:Nat} (hm:P.follows .mixedOrders=true):∀ (code:Code) (Q:Exit→Fr→St→Prop) (fr:Fr) (σ:St) (a:Act) (w:World),codeOk N code=true→yW P V c.β0.length code Q fr σ→Sim c N a w fr σ →
  code.wp P (fun e a w=>∃ fr σ,Sim c N a w fr σ∧Q e fr σ) a w:=by
 intro code
 induction code with
 | skip=>exact fun Q fr σ a w _ h hs=>wp_skip ⟨fr,σ,hs,h⟩
 | exit id=>exact fun Q fr σ a w _ h hs=>wp_exit ⟨fr,σ,hs,h⟩
 | ret=>exact fun Q fr σ a w _ h hs=>wp_ret ⟨fr,σ,hs,h⟩
 | seq x y ihx ihy =>
  intro Q fr σ a w hok h hs
  simp only [codeOk,aR] at hok
  simp only [yW] at h
  refine wp_seq (wp_mono (ihx _ fr σ a w hok.1 h hs) fun e a w=>?_)
  rintro ⟨fr',σ',hs',hq⟩
  cases e with
  | normal =>
   obtain ⟨fr2,σ2,hweak,hq⟩:=hq
   obtain ⟨g,hi,hf,hN,hd⟩:=hs'
   obtain ⟨g2,hi2,hf2⟩:=hweak c g w a.tmps rfl hi hf
   exact ihy Q fr2 σ2 a w hok.2 hq ⟨g2,hi2,hf2,hN,hd⟩
  | _=>exact ⟨fr',σ',hs',hq⟩
 | cond t x y ihx ihy =>
  intro Q fr σ a w hok h hs
  simp only [codeOk,aR] at hok
  simp only [yW] at h
  split at h
  ·
   rename_i b hb
   have hs':=hs
   obtain ⟨g,hi,hf,hN,hd⟩:=hs
   have hv:=fK hf t
   rw [hb] at hv
   have hv:=hv.c_inv
   generalize hvt:a.eval t=v at hv
   cases hv
   refine wp_cond_split hvt (fun hb=>?_) (fun hb=>?_)
   ·
    exact ihx Q fr σ a w hok.1 (h.1 hb) hs'
   ·
    exact ihy Q fr σ a w hok.2 (h.2 hb) hs'
  ·
   exact h.elim
 | block id x ih =>
  intro Q fr σ a w hok h hs
  simp only [yW] at h
  refine wp_block (wp_mono (ih _ fr σ a w hok h hs) fun e a w=>?_)
  rintro ⟨fr',σ',hs',hq⟩
  cases e with
  | exit id' =>
   simp only [Exit.inBlock] at hq ⊢
   split
   ·
    rename_i he;simp only [he,cL] at hq;exact ⟨fr',σ',hs',hq⟩
   ·
    rename_i he;simp only [he,dZ] at hq;exact ⟨fr',σ',hs',hq⟩
  | _=>exact ⟨fr',σ',hs',hq⟩
 | loop x ih =>
  intro Q fr σ a w hok h hs
  simp only [yW] at h
  obtain ⟨k,h⟩:=h
  refine aPw ?_
  induction k generalizing fr σ a w with
  | zero =>
   simp only [aIh] at h
   obtain ⟨J,⟨n,fr0,σ0,hweak0,hJ⟩,hround⟩:=h
   obtain ⟨g0,hi0,hf0,hN0,hd0⟩:=hs
   obtain ⟨g1,hi1,hf1⟩:=hweak0 c g0 w a.tmps rfl hi0 hf0
   refine aWb (fun n a w=>∃ fr σ,J n fr σ∧Sim c N a w fr σ) (fun n a w hI=>?_) n a w ⟨fr0,σ0,hJ,g1,hi1,hf1,hN0,hd0⟩
   obtain ⟨fr1,σ1,hJ1,hs1⟩:=hI
   refine wp_mono (ih _ fr1 σ1 a w hok (hround _ fr1 σ1 hJ1) hs1) fun e a' w'=>?_
   rintro ⟨fr',σ',hs',hq⟩
   cases e with
   | normal =>
    obtain ⟨m,fr2,σ2,hlt,hweak,hJ2⟩:=hq
    obtain ⟨g,hi,hf,hN,hd⟩:=hs'
    obtain ⟨g2,hi2,hf2⟩:=hweak c g w' a'.tmps rfl hi hf
    exact ⟨m,hlt,fr2,σ2,hJ2,g2,hi2,hf2,hN,hd⟩
   | _=>exact ⟨fr',σ',hs',hq⟩
  | succ k ihk =>
   simp only [aIh] at h
   refine aNk (wp_mono (ih _ fr σ a w hok h hs) fun e a' w'=>?_)
   rintro ⟨fr',σ',hs',hq⟩
   cases e with
   | normal =>
    obtain ⟨fr2,σ2,hweak,hq⟩:=hq
    obtain ⟨g,hi,hf,hN,hd⟩:=hs'
    obtain ⟨g2,hi2,hf2⟩:=hweak c g w' a'.tmps rfl hi hf
    exact ihk fr2 σ2 a' w' ⟨g2,hi2,hf2,hN,hd⟩ hq
   | _=>exact ⟨fr',σ',hs',hq⟩
 | region id ops draw =>
  intro Q fr σ a w hok h hs
  have hok':∀ o∈ops.toList,aDF N o=true:=fun o ho=>cI.1 hok o ho
  cases draw with
  | false =>
   simp only [yW] at h
   exact wp_region_list (aDy (fun a w fr σ hk hs=>⟨_,σ,hs.prune V,hk⟩) ops.toList fr σ a w hok' h hs)
  | true =>
   simp only [yW] at h
   rcases h with ⟨pre,hB,h⟩ | h
   ·
    exact aOQ hm hB hok' h hs (fun a w fr σ hk hs=>⟨_,σ,hs.prune V,hk⟩)
   ·
    exact aMR hm h hok' hs (fun a w fr σ hk hs=>⟨_,σ,hs.prune V,hk⟩)
 | _=>exact fun Q fr σ a w _ h=>by simp [yW] at h
def Fin (k0:Nat) (rv:AV) (σ:St) (r:AV) (σr:St):Prop:=∀ c g w v,c.β0.length=k0→tT c g w σ→nA g w v rv→∃ g',tT c g' w σr∧nA g' w v r
def pC (P:Program) (fr:Fr) (σ:St):List ResultVar→(List AV→Prop)→Prop
 | [],K=>K []
 | .tmp t :: rs,K=>pC P fr σ rs fun vs=>K (fr.get t :: vs)
 | .cell a t :: rs,K=>(match kX P t with
  | some (ag,n)=>(match fr.get a with
   | .box id off=>aBj ag n (.box id off) σ fun v=>pC P fr σ rs fun vs=>K (v :: vs)
   | _=>False)
  | _=>False)
def aNQ:List AV→AV
 | [v]=>v
 | vs=>.tup vs
def aJ6 (tmps:Array Value):ResultVar→Sem Value
 | .tmp t=>pure (tmps.getD t undef)
 | .cell b t=>do loadVar t (← asAddr (tmps.getD b undef))
theorem aPf (fn:Func) (tmps:Array Value):results fn tmps=(do
  let vs ← fn.results.mapM (aJ6 tmps)
  pure (if h:vs.size=1 then vs[0] else .tuple vs)):=by
 unfold results
 congr 1
theorem aB2 {P:Program}{c:Ctx}{g:G}{w:World}{a:Act}{fr:Fr}{σ:St} (hi:tT c g w σ) (hf:yV g w a.tmps fr):∀ (rs:List ResultVar) (K:List AV→Prop),pC P fr σ rs K →
  ∃ vs avs,(rs.mapM (aJ6 a.tmps)).run P w=.ok vs w∧gB g w vs.toArray avs∧K avs
 | [],K,h=>⟨[],[],by simp,⟨rfl,by simp⟩,h⟩
 | .tmp t :: rs,K,h=>by
  obtain ⟨vs,avs,hr,hc,hk⟩:=aB2 hi hf rs _ h
  refine ⟨a.tmps.getD t undef :: vs,fr.get t :: avs,by simp only [List.mapM_cons,aJ6,pure_bind,Sem.run_bind,hr,Result.andThen_ok,Sem.run_pure],?_,hk⟩
  have h1:gB g w #[a.tmps.getD t undef] [fr.get t]:=⟨rfl,fun i v x hv hx=>by
   cases i with
   | zero=>simp at hv hx;subst hv;subst hx;have:=hf t;simpa [dY] using this
   | succ i=>simp at hv⟩
  have:=h1.app hc
  simpa using this
 | .cell b t :: rs,K,h=>by
  simp only [pC] at h
  split at h
  ·
   rename_i ag n ht
   split at h
   ·
    rename_i id off hb
    have hbx:=hf b
    rw [hb] at hbx
    obtain ⟨v,av,hrun,hv,hk1⟩:=aH9 hi ht hbx h
    obtain ⟨vs,avs,hr,hc,hk⟩:=aB2 hi hf rs _ hk1
    generalize hvb:a.tmps.getD b undef=vb at hbx hrun
    cases hbx with
    | box _ _ bk hbk =>
     refine ⟨v :: vs,av :: avs,?_,?_,hk⟩
     ·
      have hl:(loadVar t ⟨bk,off,none⟩).run P w=.ok v w:=by simpa [Instr.loadAt,Instr.sureAddr] using hrun
      have h1:(aJ6 a.tmps (.cell b t)).run P w=.ok v w:=by simp only [aJ6,hvb,asAddr,pure_bind,hl]
      simp only [List.mapM_cons,Sem.run_bind,h1,Result.andThen_ok,hr,Sem.run_pure]
     ·
      have h1:gB g w #[v] [av]:=⟨rfl,fun i u x hu hx=>by
       cases i with
       | zero=>simp at hu hx;subst hu;subst hx;exact hv
       | succ i=>simp at hu⟩
      have:=h1.app hc
      simpa using this
   ·
    exact h.elim
  ·
   exact h.elim
def aNs:Nat→List AV→Fr
 | _,[]=>[]
 | k,a :: as=>(k,a) :: aNs (k+1) as
theorem aNt:∀ (as:List AV) (k d:Nat),(aNs k as).get d=if k≤d∧d<k+as.length then as.getD (d - k) .any else .any
 | [],k,d=>by simp [aNs,Fr.get]
 | a :: as,k,d=>by
  simp only [aNs,Fr.get,aNt as]
  by_cases h:d=k
  ·
   subst h;simp
  ·
   simp only [h,dZ,fB]
   by_cases h2:k+1≤d∧d<k+1+as.length
   ·
    rw [bB h2,bB (by omega)]
    rw [show d - k=(d - (k+1))+1 by omega]
    simp
   ·
    rw [aY h2,aY (by omega)]
theorem aLM {P:Program}{f:FuncId}{fn:Func}{code:Code}{args:List AV}{σ:St}{r:AV}{σr:St} (V:List Nat) (hm:P.follows .mixedOrders=true) (hf:P.funcs[f]?=some fn) (hb:fn.body=some code) (hc:aDd P f=true)
  (hok:codeOk (args.length+(fn.ntmps - args.length)) code=true)
  (h:yW P V σ.length code (fun e fr σ'=>match e with
   | .ret=>pC P fr σ' fn.results.toList fun vs=>Fin σ.length (aNQ vs) σ' r σr
   | .normal=>pC P fr σ' fn.results.toList fun vs=>Fin σ.length (aNQ vs) σ' r σr
   | _=>False) (aNs 0 args) σ):cR P f args σ r σr:=by
 refine ⟨hc,fun w I β τ vs hI hnd hlt hβI hτ hτi hlen hst hargs hglo=>?_⟩
 have hsz:vs.size=args.length:=hargs.1
 let g:G:=⟨I,β,τ⟩
 have inv:tT ⟨w,I,β,fun b=>∃ t,τ t=some b⟩ g w σ:=⟨rfl,rfl,rfl,eP _,fun _ _ _ _=>rfl,fun _ _ h=>h,fun _ _ h _ _=>h,hI,by simp [g],by simp [g],hnd,hlen,hβI,hlt,fun t b ht=>⟨.inr ⟨t,ht⟩,hτ t b ht⟩,hτi,fun id cs b hs hb=>hst id cs b hs hb,fun _ _ _=>rfl,hglo⟩
 have hfr:yV g w (vs++Array.replicate (fn.ntmps - vs.size) undef) (aNs 0 args):=by
  intro d
  rw [aNt]
  split
  ·
   rename_i hd
   have hd':d<args.length:=by omega
   have h1:=hargs.2 d vs[d] args[d] (eQ (by omega)) (aM hd')
   have e1:(vs++Array.replicate (fn.ntmps - vs.size) undef).getD d undef=vs[d]'(by omega):=by
    rw [dY,Array.getElem?_append_left (by omega),eQ (by omega)]
    rfl
   rw [e1,Nat.sub_zero,bZ,aM hd']
   exact h1
  ·
   exact .any
 have hsim:Sim ⟨w,I,β,fun b=>∃ t,τ t=some b⟩ (args.length+(fn.ntmps - args.length)) { tmps:=vs++Array.replicate (fn.ntmps - vs.size) undef,defers:=[] } w (aNs 0 args) σ :=
  ⟨g,inv,hfr,by simp [hsz],rfl⟩
 rw [← hlen] at h
 have h':=h
 refine calls_of_wp hf hb (wp_mono (aQs (c:=⟨w,I,β,fun b=>∃ t,τ t=some b⟩) hm code _ _ _ _ _ hok h' hsim) fun e a w'=>?_)
 rintro ⟨fr,σ',⟨g',hi',hf',_,hd'⟩,hq⟩
 have fin:∀ (_:pC P fr σ' fn.results.toList fun vs=>Fin β.length (aNQ vs) σ' r σr),a.defers=[]∧∃ v,(results fn a.tmps).run P w'=.ok v w'∧∃ v' g',Ending.returned v=.returned v'∧tT ⟨w,I,β,fun b=>∃ t,τ t=some b⟩ g' w' σr∧nA g' w' v' r:=by
  intro hq
  obtain ⟨us,avs,hr,hcl,hk⟩:=aB2 hi' hf' _ _ hq
  refine ⟨hd',if h:us.toArray.size=1 then us.toArray[0] else .tuple us.toArray,?_,?_⟩
  ·
   rw [aPf]
   simp only [Sem.run_bind,Array.mapM_eq_mapM_toList,Sem.run_map,hr,Result.andThen_ok,Sem.run_pure]
  ·
   have hrv:nA g' w' (if h:us.toArray.size=1 then us.toArray[0] else .tuple us.toArray) (aNQ avs):=by
    have hl:us.length=avs.length:=by simpa using hcl.1
    rcases avs with _ | ⟨x,_ | ⟨y,rest⟩⟩
    ·
     have h1:¬us.toArray.size=1:=by simpa using (by simp [hl]:¬us.length=1)
     rw [dif_neg h1]
     exact .tup _ [] hcl.1 hcl.2
    ·
     have h1:us.toArray.size=1:=by simpa using hl
     rw [dif_pos h1]
     exact hcl.2 0 _ x (by simp) rfl
    ·
     have h1:¬us.toArray.size=1:=by
      intro h1
      have h2:us.length=1:=by simpa using h1
      rw [h2] at hl
      simp at hl
     rw [dif_neg h1]
     exact .tup _ (x :: y :: rest) hcl.1 hcl.2
   obtain ⟨g2,hi2,hr2⟩:=hk ⟨w,I,β,fun b=>∃ t,τ t=some b⟩ g' w' _ rfl hi' hrv
   exact ⟨_,g2,rfl,hi2,hr2⟩
 cases e with
 | normal=>exact fin hq
 | ret=>exact fin hq
 | exit id=>exact hq.elim
 | goto l=>exact hq.elim
 | panic ch=>exact hq.elim
 | outgrown=>exact hq.elim
mutual
def AV.retok (toks:List Nat):AV→AV
 | .own t sz xs=>(match toks.idxOf? t with | some j=>.own j sz xs | _=>.c (.list sz xs))
 | .mrow t sz xs=>(match toks.idxOf? t with | some j=>.mrow j sz xs | _=>.any)
 | .mptr t sz i off row=>(match toks.idxOf? t with | some j=>.mptr j sz i off row | _=>.any)
 | .agg cs=>.agg (AV.retokL toks cs)
 | .tup cs=>.tup (AV.retokL toks cs)
 | .fn f cs=>.fn f (AV.retokL toks cs)
 | a=>a
def AV.retokL (toks:List Nat):List AV→List AV
 | []=>[]
 | a :: as=>AV.retok toks a :: AV.retokL toks as
end
theorem AV.retokL_eq (toks:List Nat) (l:List AV):AV.retokL toks l=l.map (AV.retok toks):=by
 induction l with
 | nil=>rfl
 | cons a l ih=>simp [AV.retokL,ih]
theorem nA.retok {g:G}{w:World}{v:Value}{a:AV} (toks:List Nat) (h:nA g w v a):nA ⟨g.I,g.β,fun j=>(toks[j]?).bind g.τ⟩ w v (a.retok toks):=by
 induction h with
 | c h=>exact .c h
 | nil=>exact .nil
 | own t sz xs h =>
  simp only [AV.retok]
  split
  ·
   rename_i j hj
   obtain ⟨h0,hs,e,cells,ho,hv,hb⟩:=h
   have hjt:toks[j]?=some t:=by
    rw [List.idxOf?,List.findIdx?_eq_some_iff_getElem] at hj
    obtain ⟨h1,h2,_⟩:=hj
    rw [aM h1]
    simpa using h2
   exact .own j sz xs ⟨h0,hs,e,cells,ho,hv,fun b hb'=>⟨by simp [hjt,(hb b hb').1],(hb b hb').2⟩⟩
  ·
   exact .c h.rv
 | agg vs cs h _ ih =>
  simp only [AV.retok,AV.retokL_eq]
  refine .agg vs _ (by simpa using h) (fun i v a hv ha=>?_)
  simp only [bY,bV] at ha
  obtain ⟨a,ha,rfl⟩:=ha
  exact ih i v a hv ha
 | tup vs cs h _ ih =>
  simp only [AV.retok,AV.retokL_eq]
  refine .tup vs _ (by simpa using h) (fun i v a hv ha=>?_)
  simp only [bY,bV] at ha
  obtain ⟨a,ha,rfl⟩:=ha
  exact ih i v a hv ha
 | box id off b h=>exact .box id off b h
 | eptr b o off cs vs hc hv=>exact .eptr b o off cs vs hc hv
 | ptrs b o cap l hcap hc=>exact .ptrs b o cap l hcap hc
 | view id off n b cap h hn=>exact .view id off n b cap h hn
 | mrow t sz xs h =>
  simp only [AV.retok]
  split
  ·
   rename_i j hj
   obtain ⟨h0,hs,e,cells,ho,hv,hb⟩:=h
   exact .mrow j sz xs ⟨h0,hs,e,cells,ho,hv,fun b hb'=>⟨by simp [aGA hj,(hb b hb').1],(hb b hb').2⟩⟩
  ·
   exact .any
 | mptr t sz i off row h =>
  simp only [AV.retok]
  split
  ·
   rename_i j hj
   obtain ⟨b,cur,e,hv,ht,hI,hl,hc,hh,hr⟩:=h
   exact .mptr j sz i off row ⟨b,cur,e,hv,by simp [aGA hj,ht],hI,hl,hc,hh,hr⟩
  ·
   exact .any
 | pptr b o bk p hi hb hc=>exact .pptr b o bk p hi hb hc
 | fn k vs cs h _ ih =>
  simp only [AV.retok,AV.retokL_eq]
  refine .fn k vs _ (by simpa using h) (fun i v a hv ha=>?_)
  simp only [bY,bV] at ha
  obtain ⟨a,ha,rfl⟩:=ha
  exact ih i v a hv ha
 | nilptr=>exact .nilptr
 | any=>exact .any
def aB1:Nat→Bool:=fun _=>true
theorem nA.pure {g g':G}{w:World}{v:Value}{a:AV}{m:Nat} (hI:g'.I=g.I) (hβ:∀ (k b:Nat),k<m→g.β[k]?=some b→g'.β[k]?=some b) (h:nA g w v a) (hin:(a.dem aB1).inB m=true):nA g' w v (a.dem aB1):=by
 have h1:=h.dem aB1
 have h2:=nA.inB (g:=g.dem aB1) (g':=⟨g.I,g'.β,fun _=>.none⟩) (m:=m) rfl (by funext t;simp [G.dem,aB1]) hβ h1 hin
 have st:Stp ⟨g.I,g'.β,fun _=>.none⟩ w g' w:=⟨fun b o h=>by rw [hI];exact h,fun _ _ _=>rfl,fun _ _ h=>h,fun t b h=>by simp at h⟩
 exact h2.stp st
theorem aRS {k0:Nat}{rv r:AV}{σ σr:St} (toks:List Nat) (hnd:toks.Nodup) (hin:(rv.retok toks).inB k0=true) (hs:∀ (i:Nat) cs,i<k0→σ[i]?=some cs→AV.inB.inBL k0 (AV.demL aB1 cs)=true)
  (hr:(rv.retok toks).le r) (hσ:leS (St.dem aB1 (σ.take k0)) σr):Fin k0 rv σ r σr:=by
 intro c g w v hk hi hv
 let g':G:={ I:=g.I,β:=g.β.take k0,τ:=fun j=>(toks[j]?).bind g.τ }
 have hβ:∀ (k b:Nat),k<k0→g.β[k]?=some b→g'.β[k]?=some b:=fun k b hk hb=>by show (g.β.take k0)[k]?=some b;rw [eX hk];exact hb
 have hmem:∀ b,b∈g.β.take k0→b∈g.β:=fun b hb=>lA hb
 have hsl:=aI1 hσ
 refine ⟨g',⟨hi.os,hi.tape,hi.output,hi.size,hi.old,hi.Ile,hi.Iold,hi.Ilt,?_,fun b hb=>hi.βnew b ?_,(List.take_sublist _ _).nodup hi.βnd,?_,fun b hb=>hi.βI b (hmem b hb),fun b hb=>hi.βlt b (hmem b hb),fun t b ht=>?_,fun t t' b h1 h2=>?_,fun id cs b hs' hb=>?_,hi.cell0,hi.glo⟩,
  hr _ _ _ (nA.inB (g:=⟨g.I,g.β,fun j=>(toks[j]?).bind g.τ⟩) (g':=g') (m:=k0) rfl rfl hβ (hv.retok toks) hin)⟩
 ·
  show (g.β.take k0).take c.β0.length=c.β0
  rw [tG,hk,Nat.min_self,← hk]
  exact hi.βpre
 ·
  change b∈(g.β.take k0).drop c.β0.length at hb
  rw [oF] at hb
  exact lA hb
 ·
  show (g.β.take k0).length=σr.length
  rw [← hsl.1,St.dem_eq,gG,nC,nC,hi.βlen]
 ·
  change (toks[t]?).bind g.τ=some b at ht
  cases htt:toks[t]? with
  | none=>simp [htt] at ht
  | some s =>
   simp only [htt,aA] at ht
   obtain ⟨h1,h2,h3⟩:=hi.τnew s b ht
   exact ⟨h1,h2,fun hb=>h3 (hmem b hb)⟩
 ·
  change (toks[t]?).bind g.τ=some b at h1
  change (toks[t']?).bind g.τ=some b at h2
  cases e1:toks[t]? with
  | none=>simp [e1] at h1
  | some s =>
   cases e2:toks[t']? with
   | none=>simp [e2] at h2
   | some s' =>
    simp only [e1,e2,aA] at h1 h2
    have:=hi.τinj s s' b h1 h2
    subst this
    exact tV hnd e1 e2
 ·
  obtain ⟨bs,hbs,hle⟩:=hsl.2 id cs hs'
  rw [St.dem_eq,bY,bV] at hbs
  obtain ⟨cs0,hcs0,rfl⟩:=hbs
  rw [lZ] at hcs0
  split at hcs0
  ·
   rename_i hid
   change (g.β.take k0)[id]?=some b at hb
   rw [eX hid] at hb
   obtain ⟨cur,e,hh,hc⟩:=hi.store id cs0 b hcs0 hb
   refine ⟨cur,e,hh,gB.le hle ⟨by simpa using hc.1,fun i v a hv ha=>?_⟩⟩
   simp only [bY,bV] at ha
   obtain ⟨a,ha,rfl⟩:=ha
   refine nA.pure (g:=g) (g':=g') (m:=k0) rfl hβ (hc.2 i v a hv ha) (aB8 (hs id cs0 hid hcs0) i _ ?_)
   rw [AV.demL_eq,bY,ha]
   rfl
  ·
   cases hcs0
theorem aS9 {k0 j off:Nat}{cs0:List AV}{σ σr:St} (hj:k0≤j) (hcs:σ[j]?=some cs0) (hcin:AV.inB.inBL k0 (AV.demL aB1 cs0)=true) (hs:∀ (i:Nat) cs,i<k0→σ[i]?=some cs→AV.inB.inBL k0 (AV.demL aB1 cs)=true)
  (hσ:leS (St.dem aB1 (σ.take k0)++[AV.demL aB1 cs0]) σr):Fin k0 (.box j off) σ (.box k0 off) σr:=by
 intro c g w v hk hi hv
 cases hv with
 | box _ _ bj hbj =>
  have hjl:j<g.β.length:=(bR.1 hbj).1
  let g':G:={ I:=g.I,β:=g.β.take k0++[bj],τ:=fun _=>.none }
  have hlt:(g.β.take k0).length=k0:=by simp;omega
  have hβ:∀ (k b:Nat),k<k0→g.β[k]?=some b→g'.β[k]?=some b:=fun k b hk hb=>by
   show (g.β.take k0++[bj])[k]?=some b
   rw [cQ (by rw [hlt];exact hk),eX hk]
   exact hb
  have hmem:∀ b,b∈g.β.take k0++[bj]→b∈g.β:=fun b hb=>by
   rcases gV.1 hb with h | h
   ·
    exact lA h
   ·
    simp at h;subst h;exact dA hbj
  have hsl:=aI1 hσ
  have hcell:∀ (cs1:List AV) (cur:Array Value),AV.inB.inBL k0 (AV.demL aB1 cs1)=true→gB g w cur cs1→gB g' w cur (AV.demL aB1 cs1):=by
   intro cs1 cur hin hc
   rw [AV.demL_eq]
   refine ⟨by simpa using hc.1,fun i v a hv ha=>?_⟩
   simp only [bY,bV] at ha
   obtain ⟨a,ha,rfl⟩:=ha
   refine nA.pure (g:=g) (g':=g') (m:=k0) rfl hβ (hc.2 i v a hv ha) (aB8 hin i _ ?_)
   rw [AV.demL_eq,bY,ha]
   rfl
  refine ⟨g',⟨hi.os,hi.tape,hi.output,hi.size,hi.old,hi.Ile,hi.Iold,hi.Ilt,?_,fun b hb=>?_,?_,?_,fun b hb=>hi.βI b (hmem b hb),fun b hb=>hi.βlt b (hmem b hb),fun t b ht=>by simp [g'] at ht,fun t t' b h1=>by simp [g'] at h1,fun id cs b hs' hb=>?_,hi.cell0,hi.glo⟩,
   .box k0 off bj ?_⟩
  ·
   show (g.β.take k0++[bj]).take c.β0.length=c.β0
   rw [mA (by rw [hlt,hk];exact eP _),tG,hk,Nat.min_self,← hk]
   exact hi.βpre
  ·
   change b∈(g.β.take k0++[bj]).drop c.β0.length at hb
   rw [kO (by rw [hlt,hk];exact eP _)] at hb
   rcases gV.1 hb with h | h
   ·
    rw [oF] at h
    exact hi.βnew b (lA h)
   ·
    simp at h
    subst h
    refine hi.βnew b ?_
    have:(g.β.drop c.β0.length)[j - c.β0.length]?=some b:=by rw [hO,show c.β0.length+(j - c.β0.length)=j by omega];exact hbj
    exact dA this
  ·
   show (g.β.take k0++[bj]).Nodup
   refine List.nodup_append.2 ⟨(List.take_sublist _ _).nodup hi.βnd,by simp,fun x hx y hy=>?_⟩
   simp at hy
   subst hy
   rintro rfl
   obtain ⟨i,hix⟩:=kG hx
   have hil:=(bR.1 hix).1
   rw [eX (by omega)] at hix
   have:=tV hi.βnd hix hbj
   omega
  ·
   show (g.β.take k0++[bj]).length=σr.length
   rw [← hsl.1]
   have:=hi.βlen
   simp [St.dem_eq]
   omega
  ·
   obtain ⟨bs,hbs,hle⟩:=hsl.2 id cs hs'
   have hdl:(St.dem aB1 (σ.take k0)).length=k0:=by have:=hi.βlen;simp [St.dem_eq];omega
   by_cases hid:id<k0
   ·
    rw [cQ (by rw [hdl];exact hid),St.dem_eq,bY,eX hid,bV] at hbs
    obtain ⟨cs1,hcs1,rfl⟩:=hbs
    change (g.β.take k0++[bj])[id]?=some b at hb
    rw [cQ (by rw [hlt];exact hid),eX hid] at hb
    obtain ⟨cur,e,hh,hc⟩:=hi.store id cs1 b hcs1 hb
    have:=hcell cs1 cur (hs id cs1 hid hcs1) hc
    rw [AV.demL_eq] at this
    exact ⟨cur,e,hh,gB.le hle this⟩
   ·
    rw [dL (by rw [hdl];omega),hdl] at hbs
    change (g.β.take k0++[bj])[id]?=some b at hb
    rw [dL (by rw [hlt];omega),hlt] at hb
    have h0:id - k0=0:=by
     have:=(bR.1 hb).1
     simp at this
     omega
    rw [h0] at hbs hb
    simp at hbs hb
    subst hbs
    subst hb
    obtain ⟨cur,e,hh,hc⟩:=hi.store j cs0 bj hcs hbj
    exact ⟨cur,e,hh,gB.le hle (hcell cs0 cur hcin hc)⟩
  ·
   show (g.β.take k0++[bj])[k0]?=some bj
   rw [dL (by rw [hlt];exact eP _),hlt]
   simp
theorem aQk {ag:Bool}{n:Nat}{x:AV}{σ:St}{K:AV→Prop}:aBj ag n x σ K→∃ v,K v∧∀ K':AV→Prop,K' v→aBj ag n x σ K':=by
 unfold aBj
 repeat' split
 all_goals first | exact fun h=>⟨_,h,fun K' h'=>h'⟩ | exact fun h=>⟨_,h.2,fun K' h'=>⟨h.1,h'⟩⟩ | exact fun h=>h.elim
theorem aRt {P:Program}{op:BinOp}{t:TypeId}{x y:AV}{K:AV→Prop}:zC P op t x y K→∃ v,K v∧∀ K':AV→Prop,K' v→zC P op t x y K':=by
 unfold zC
 repeat' split
 all_goals first | exact fun h=>h.elim | exact fun h=>⟨_,h.2.2,fun K' h'=>⟨h.1,h.2.1,h'⟩⟩ | exact fun h=>⟨_,h.2,fun K' h'=>⟨h.1,h'⟩⟩ | exact fun h=>⟨_,h,fun K' h'=>h'⟩
theorem aRw {k:Nat}{x:AV}{K:AV→Prop}:aHm k x K→∃ v,K v∧∀ K':AV→Prop,K' v→aHm k x K':=by
 unfold aHm
 repeat' split
 all_goals first | exact fun h=>⟨_,h.2,fun K' h'=>⟨h.1,h'⟩⟩ | exact fun h=>h.elim
theorem aMN {lo hi:Option AV}{n:Nat}{k:Nat→Nat→Prop}:tD lo hi n k→∃ l h,k l h∧∀ k':Nat→Nat→Prop,k' l h→tD lo hi n k':=by
 unfold tD
 repeat' split
 all_goals first | exact fun h=>h.elim | exact fun h=>⟨_,_,h.2.2.2,fun K' h'=>⟨h.1,h.2.1,h.2.2.1,h'⟩⟩ | exact fun h=>⟨_,_,h.2.2,fun K' h'=>⟨h.1,h.2.1,h'⟩⟩ | exact fun h=>⟨_,_,h,fun K' h'=>h'⟩
theorem aOE {P:Program}{t:TypeId}{x:AV}{lo hi:Option AV}{K:AV→Prop}:aCZ P t x lo hi K→∃ v,K v∧∀ K':AV→Prop,K' v→aCZ P t x lo hi K':=by
 unfold aCZ
 repeat' split
 all_goals first | (intro h;obtain ⟨l,h',h1,h2⟩:=aMN h.2;exact ⟨_,h1,fun K' hk=>⟨h.1,h2 _ hk⟩⟩) | exact fun h=>h.elim
theorem aIZ {α:Type}{l:List α}{i:Int}{Q:α→Prop} (h0:0≤i) (h1:i<l.length) (h:∀ x,l[i.toNat]?=some x→Q x):∃ x,Q x∧∀ Q':α→Prop,Q' x→∀ y,l[i.toNat]?=some y→Q' y:=by
 have hlt:i.toNat<l.length:=by omega
 refine ⟨l[i.toNat],h _ (aM hlt),fun Q' hq y hy=>?_⟩
 rw [aM hlt] at hy
 cases hy
 exact hq
def QQ (σ:St) (R:AV→Prop):Option (Nat→Bool)→AV→St→Prop:=fun dm v σ'=>dm=.none∧σ'=σ∧R v
theorem aMV {P:Program}{o:Oper}{ev:Operand→AV}{σ:St}{R:AV→Prop} (h:eG P o ev σ (QQ σ R)):∃ v,eG P o ev σ (QE σ v)∧R v:=by
 have one:∀ {A:(AV→Prop)→Prop},(∃ v,QQ σ R .none v σ∧∀ K':AV→Prop,K' v→A K')→∃ v,A (fun v'=>QE σ v .none v' σ)∧R v:=by
  rintro A ⟨v,h1,h2⟩
  exact ⟨v,h2 _ ⟨rfl,rfl,rfl⟩,h1.2.2⟩
 obtain ⟨dst,op,ty,pos,after,guard⟩:=o
 cases op
 case call c =>
  obtain ⟨callee,args,argTypes⟩:=c
  cases callee with
  | builtin b =>
   cases b
   case len =>
    simp only [eG] at h ⊢
    split at h
    ·
     exact one (A:=fun K=>aHm _ _ K) (aRw h)
    ·
     exact h.elim
   case append =>
    exfalso
    simp only [eG] at h
    split at h
    ·
     have h':=aGj (K':=fun dm _ _=>dm=.none) (fun dm v σ h=>h.1) h
     unfold wT at h'
     repeat' split at h'
     all_goals simp at h'
    ·
     exact h.elim
   case max =>
    simp only [eG] at h ⊢
    split at h
    ·
     split at h
     ·
      exact ⟨_,⟨h.1,rfl,h.2.1⟩,h.2.2⟩
     ·
      exact h.elim
    ·
     exact h.elim
   case min =>
    simp only [eG] at h ⊢
    split at h
    ·
     split at h
     ·
      exact ⟨_,⟨h.1,rfl,h.2.1⟩,h.2.2⟩
     ·
      exact h.elim
    ·
     exact h.elim
   all_goals simp only [eG] at h
  | _=>simp only [eG] at h
 case slice t x lo hi mx =>
  cases mx with
  | none =>
   obtain ⟨h7,h⟩:=h
   obtain ⟨v,h1,h2⟩:=aOE h
   exact ⟨v,⟨h7,h2 _ ⟨rfl,rfl,rfl⟩⟩,h1.2.2⟩
  | some m=>simp only [eG] at h
 case makeFunc fn f cs =>
  cases fn <;> simp only [eG] at h
  exact ⟨_,⟨h.1,h.2.1,rfl,h.2.2.1⟩,h.2.2.2⟩
 case buildSlice t n parts =>
  simp only [eG] at h ⊢
  split at h
  ·
   obtain ⟨h1,h2,hs,h⟩:=h
   split at h
   ·
    cases h.1
   ·
    rename_i hrows
    split at h
    ·
     rename_i l hl
     refine ⟨.ptrs l,⟨h1,h2,hs,?_⟩,h.2.2.2⟩
     split
     ·
      rename_i rows hr;exact absurd hr (hrows rows)
     ·
      exact ⟨h.1,rfl,rfl,rfl⟩
    ·
     exact h.elim
  ·
   exact h.elim
 case binOp op t x y t2 =>
  simp only [eG] at h ⊢
  exact one (A:=fun K=>zC P op t _ _ K) (aRt h)
 case load t x =>
  simp only [eG] at h ⊢
  split at h
  ·
   exact one (A:=fun K=>aBj _ _ _ σ K) (aQk h)
  ·
   exact h.elim
 case pick x p q =>
  simp only [eG] at h ⊢
  split at h
  ·
   rename_i t ht
   split at h
   ·
    exact ⟨_,⟨h.1,rfl,h.2.1⟩,h.2.2⟩
   ·
    cases t
    ·
     exact ⟨_,⟨(fun e=>by cases e),fun _=>⟨rfl,rfl,rfl⟩⟩,(h.2 rfl).2.2⟩
    ·
     exact ⟨_,⟨fun _=>⟨rfl,rfl,rfl⟩,(fun e=>by cases e)⟩,(h.1 rfl).2.2⟩
  ·
   exact h.elim
 case indexAddr t x ix =>
  simp only [eG] at h ⊢
  split at h
  ·
   split at h
   ·
    split at h
    ·
     obtain ⟨h1,h2,h3,h⟩:=h
     obtain ⟨row,a,b⟩:=aIZ h2 h3 h
     exact ⟨_,⟨h1,h2,h3,b _ ⟨rfl,rfl,rfl⟩⟩,a.2.2⟩
    ·
     obtain ⟨h1,h2,h3,h⟩:=h
     obtain ⟨row,a,b⟩:=aIZ h2 h3 h
     exact ⟨_,⟨h1,h2,h3,b _ ⟨rfl,rfl,rfl⟩⟩,a.2.2⟩
    ·
     obtain ⟨h1,h2,h3,h⟩:=h
     obtain ⟨row,a,b⟩:=aIZ h2 h3 h
     exact ⟨_,⟨h1,h2,h3,b _ ⟨rfl,rfl,rfl⟩⟩,a.2.2⟩
    ·
     exact h.elim
   ·
    exact h.elim
  ·
   exact h.elim
 case index t x ix =>
  simp only [eG] at h ⊢
  obtain ⟨h0,h⟩:=h
  split at h
  ·
   obtain ⟨h2,h3,h⟩:=h
   obtain ⟨row,a,b⟩:=aIZ h2 h3 h
   exact ⟨_,⟨h0,h2,h3,b _ ⟨rfl,rfl,rfl⟩⟩,a.2.2⟩
  ·
   exact h.elim
 all_goals simp only [eG] at h ⊢
 all_goals (repeat' split at h)
 all_goals first
  | exact h.elim
  | exact ⟨_,⟨h.1,rfl,h.2.1⟩,h.2.2⟩
  | exact ⟨_,⟨h.1,h.2.1,rfl,h.2.2.1⟩,h.2.2.2⟩
  | exact ⟨_,⟨h.1,h.2.1,h.2.2.1,rfl,h.2.2.2.1⟩,h.2.2.2.2⟩
  | (obtain ⟨h1,h2,l,h3,h4⟩:=h;exact ⟨_,⟨h1,h2,l,h3,h4.1,rfl,h4.2.1⟩,h4.2.2⟩)
  | exact h.2.elim
  | exact h.2.2.elim
  | exact h.2.2.2.elim
  | exact ⟨_,⟨h.1,h.2.1,h.2.2.1,h.2.2.2.1,rfl,h.2.2.2.2.1⟩,h.2.2.2.2.2⟩
  | (rename_i hif;refine ⟨_,?_,h.2.2.2⟩;rw [bB hif];exact ⟨h.1,h.2.1,rfl,h.2.2.1⟩)
  | (rename_i hif _ _ _;refine ⟨_,?_,h.2.2⟩;rw [aY hif];exact ⟨h.1,rfl,h.2.1⟩)
  | (rename_i hif _ _ hx;refine ⟨_,?_,h.2.2⟩;rw [aY hif];simp only [hx];exact ⟨h.1,rfl,h.2.1⟩)
theorem aOG {P:Program}{o:Oper}{ev:Operand→AV}{σ:St}{R:AV→Prop} (h:aEm P o ev σ (QQ σ R)):∃ v,aEm P o ev σ (QE σ v)∧R v:=by
 rcases h with h | ⟨v,h,h2⟩ | ⟨v,h,h2⟩ | ⟨dm,v,σ',h,h2⟩
 ·
  obtain ⟨v,h1,h2⟩:=aMV h
  exact ⟨v,.inl h1,h2⟩
 ·
  exact ⟨v,.inr (.inl ⟨v,h,rfl,rfl,rfl⟩),h2.2.2⟩
 ·
  exact ⟨v,.inr (.inr (.inl ⟨v,h,rfl,rfl,rfl⟩)),h2.2.2⟩
 ·
  exact ⟨v,.inr (.inr (.inr ⟨dm,v,σ',h,h2.1,rfl,h2.2.1⟩)),h2.2.2⟩
theorem aQl {P:Program}{o:Oper}{fr:Fr}{σ:St}{K K':Fr→St→Prop} (hk:∀ fr σ,K fr σ→K' fr σ):aOw P o fr σ K→aOw P o fr σ K':=aMQ hk
theorem aE4 {P:Program}{ops:List Oper}{K K':Fr→St→Prop} (hk:∀ fr σ,K fr σ→K' fr σ):∀ (l:List Oper) (fr:Fr) (σ:St),lS true P ops l fr σ K→lS true P ops l fr σ K'
 | [],fr,σ=>hk fr σ
 | o :: l,fr,σ=>aCG (aQl (fun fr σ=>aE4 hk l fr σ)) (aE4 hk l _ σ)
theorem aJm {P:Program}{ops:List Oper}{σ:St}{K K':Fr→Prop} (hk:∀ fr,K fr→K' fr):∀ (l:List Oper) (fr:Fr),aqs P ops l fr σ K→aqs P ops l fr σ K'
 | [],fr=>hk fr
 | o :: l,fr=>aCG (fun ⟨v,h1,h2⟩=>⟨v,h1,aJm hk l _ h2⟩) (aJm hk l _)
theorem aDc {P:Program}{V:List Nat}{k0:Nat}:∀ (c:Code) {Q Q':Exit→Fr→St→Prop}{fr:Fr}{σ:St},(∀ e fr σ,Q e fr σ→Q' e fr σ)→yW P V k0 c Q fr σ→yW P V k0 c Q' fr σ:=by
 intro c
 induction c with
 | skip=>exact fun hq h=>hq _ _ _ h
 | exit id=>exact fun hq h=>hq _ _ _ h
 | ret=>exact fun hq h=>hq _ _ _ h
 | seq x y ihx ihy =>
  intro Q Q' fr σ hq h
  simp only [yW] at h ⊢
  refine ihx (fun e fr σ he=>?_) h
  cases e with
  | normal=>obtain ⟨fr',σ',hw,h⟩:=he;exact ⟨fr',σ',hw,ihy hq h⟩
  | _=>exact hq _ _ _ he
 | cond t x y ihx ihy =>
  intro Q Q' fr σ hq
  simp only [yW]
  split
  ·
   exact fun h=>⟨fun e=>ihx hq (h.1 e),fun e=>ihy hq (h.2 e)⟩
  ·
   exact id
 | block id x ih =>
  intro Q Q' fr σ hq h
  simp only [yW] at h ⊢
  refine ih (fun e fr σ he=>?_) h
  cases e with
  | exit id' =>
   simp only at he ⊢
   split
   ·
    rename_i e;simp only [e,cL] at he;exact hq _ _ _ he
   ·
    rename_i e;simp only [e,dZ] at he;exact hq _ _ _ he
  | _=>exact hq _ _ _ he
 | loop x ih =>
  intro Q Q' fr σ hq h
  simp only [yW] at h ⊢
  obtain ⟨k,h⟩:=h
  refine ⟨k,?_⟩
  induction k generalizing fr σ with
  | zero =>
   simp only [aIh] at h ⊢
   obtain ⟨J,h0,h1⟩:=h
   refine ⟨J,h0,fun n fr σ hJ=>ih (fun e fr σ he=>?_) (h1 n fr σ hJ)⟩
   cases e with
   | normal=>exact he
   | _=>exact hq _ _ _ he
  | succ k ihk =>
   simp only [aIh] at h ⊢
   refine ih (fun e fr σ he=>?_) h
   cases e with
   | normal=>obtain ⟨fr',σ',hw,he⟩:=he;exact ⟨fr',σ',hw,ihk he⟩
   | _=>exact hq _ _ _ he
 | region id ops draw =>
  intro Q Q' fr σ hq
  cases draw with
  | false=>exact aE4 (fun fr σ=>hq _ _ _) _ fr σ
  | true =>
   simp only [yW]
   rintro (⟨pre,h1,h2⟩ | h2)
   ·
    exact .inl ⟨pre,h1,aJm (fun fr=>aE4 (fun fr σ=>hq _ _ _) _ fr _) _ fr h2⟩
   ·
    exact .inr (aOA (fun fr σ=>hq _ _ _) h2)
 | _=>intro Q Q' fr σ _ h;simp [yW] at h
def hold (p:Prop):Prop:=p
def aEb (K:Fr→St→Prop) (Q:Exit→Fr→St→Prop):Exit→Fr→St→Prop:=fun e fr σ=>match e with | .normal=>K fr σ | e=>Q e fr σ
def aQA (id:Nat) (Q:Exit→Fr→St→Prop):Exit→Fr→St→Prop:=fun e fr σ=>match e with | .exit id'=>if id'=id then Q .normal fr σ else Q (.exit id') fr σ | e=>Q e fr σ
def aUC (P:Program) (rs:List ResultVar) (k0:Nat) (r:AV) (σr:St):Exit→Fr→St→Prop:=fun e fr σ'=>match e with
 | .ret=>pC P fr σ' rs fun vs=>Fin k0 (aNQ vs) σ' r σr
 | .normal=>pC P fr σ' rs fun vs=>Fin k0 (aNQ vs) σ' r σr
 | _=>False
section
variable {P:Program}{V:List Nat}{k0:Nat}{Q:Exit→Fr→St→Prop}{fr:Fr}{σ:St}{K:Fr→St→Prop}
theorem aVV {x y:Code} (A:Fr→St→Prop) (h:yW P V k0 x (aEb (fun fr σ=>∃ fr' σ',pX k0 fr σ fr' σ'∧A fr' σ') Q) fr σ) (h2:∀ fr σ,A fr σ→yW P V k0 y Q fr σ):yW P V k0 (.seq x y) Q fr σ:=by
 refine aDc x (fun e fr σ he=>?_) h
 cases e with
 | normal=>obtain ⟨fr',σ',hw,ha⟩:=he;exact ⟨fr',σ',hw,h2 _ _ ha⟩
 | _=>exact he
theorem bL (h:Q .normal fr σ):yW P V k0 .skip Q fr σ:=h
theorem bJ (h:Q .ret fr σ):yW P V k0 .ret Q fr σ:=h
theorem iA {id:Nat} (h:Q (.exit id) fr σ):yW P V k0 (.exit id) Q fr σ:=h
theorem cE {id:Nat}{c:Code} (h:yW P V k0 c (aQA id Q) fr σ):yW P V k0 (.block id c) Q fr σ:=h
theorem bA {id:Nat}{l:List Oper} (h:lS true P l l fr σ fun fr σ=>hold (Q .normal (prune V fr) σ)):yW P V k0 (.region id l.toArray false) Q fr σ:=h
theorem aVf (pl:List PI) {id:Nat}{l:List Oper} (hB:aHB l.toArray pl=true) (h:ad P l.toArray pl fr σ fun fr σ=>hold (Q .normal (prune V fr) σ)):yW P V k0 (.region id l.toArray true) Q fr σ :=
 .inr (.inl ⟨pl,hB,h⟩)
theorem aMu {c:Operand}{x y:Code} (b:Bool) (h:fr.ev c=.c (.bool b)) (h1:b=true→yW P V k0 x Q fr σ) (h2:b=false→yW P V k0 y Q fr σ):yW P V k0 (.cond c x y) Q fr σ:=by
 simp only [yW,h]
 exact ⟨h1,h2⟩
theorem aVe {c:Code} (J:Nat→Fr→St→Prop) (n:Nat) {fr':Fr}{σ':St} (hw:pX k0 fr σ fr' σ') (h0:J n fr' σ') (h:∀ n fr σ,J n fr σ→yW P V k0 c (aEb (fun fr σ=>∃ m fr' σ',m<n∧pX k0 fr σ fr' σ'∧J m fr' σ') Q) fr σ):yW P V k0 (.loop c) Q fr σ :=
 ⟨0,J,⟨n,fr',σ',hw,h0⟩,h⟩
def LU (P:Program) (V:List Nat) (k0:Nat) (c:Code) (Q:Exit→Fr→St→Prop) (k:Nat) (fr:Fr) (σ:St):Prop :=
 aIh k0 (yW P V k0 c) (fun fr σ=>∃ J:Nat→Fr→St→Prop,(∃ n fr' σ',pX k0 fr σ fr' σ'∧J n fr' σ')∧∀ n fr σ,J n fr σ→yW P V k0 c (fun e fr σ=>match e with | .normal=>∃ m fr' σ',m<n∧pX k0 fr σ fr' σ'∧J m fr' σ' | e=>Q e fr σ) fr σ) Q k fr σ
theorem aQe (k:Nat) {c:Code} (h:LU P V k0 c Q k fr σ):yW P V k0 (.loop c) Q fr σ:=⟨k,h⟩
theorem xM {k:Nat}{c:Code} (h:yW P V k0 c (aEb (fun fr σ=>LU P V k0 c Q k fr σ) Q) fr σ):LU P V k0 c Q (k+1) fr σ:=by
 simp only [LU,aIh]
 refine aDc c (fun e fr σ he=>?_) h
 cases e with
 | normal=>exact ⟨fr,σ,pX.refl _ _ _,he⟩
 | _=>exact he
end
theorem dQ {P:Program}{f:FuncId}{fn:Func}{code:Code}{args:List AV}{σ:St}{r:AV}{σr:St} (V:List Nat) (hm:P.follows .mixedOrders=true) (hf:P.funcs[f]?=some fn) (hb:fn.body=some code) (hc:aDd P f=true)
  (hok:codeOk (args.length+(fn.ntmps - args.length)) code=true) (h:yW P V σ.length code (aUC P fn.results.toList σ.length r σr) (aNs 0 args) σ):cR P f args σ r σr :=
 aLM V hm hf hb hc hok h
inductive Fr.leF:Fr→Fr→Prop
 | nil (fr:Fr):Fr.leF fr []
 | cons {i:Nat}{a b:AV}{r s:Fr} (h:a.le b) (t:Fr.leF r s):Fr.leF ((i,a) :: r) ((i,b) :: s)
theorem Fr.leF_get {fr fr':Fr} (h:Fr.leF fr fr') (d:Nat):(fr.get d).le (fr'.get d):=by
 induction h with
 | nil fr=>exact AV.le_any _
 | cons h t ih =>
  simp only [Fr.get]
  split
  ·
   exact h
  ·
   exact ih
theorem pX.frame {k0:Nat}{fr fr':Fr}{σ:St} (h:Fr.leF fr fr'):pX k0 fr σ fr' σ:=pX.slots (Fr.leF_get h)
def Fr.inB (m:Nat):Fr→Bool
 | []=>true
 | (_,a) :: r=>a.inB m&&Fr.inB m r
theorem Fr.inB_get {m:Nat}{fr:Fr} (h:fr.inB m=true) (d:Nat):(fr.get d).inB m=true:=by
 induction fr with
 | nil=>rfl
 | cons x r ih =>
  obtain ⟨i,a⟩:=x
  simp only [Fr.inB,aR] at h
  simp only [Fr.get]
  split
  ·
   exact h.1
  ·
   exact ih h.2
def St.inB (m:Nat):St→Bool
 | []=>true
 | cs :: r=>AV.inB.inBL m cs&&St.inB m r
theorem St.inB_get {m:Nat}{σ:St} (h:σ.inB m=true) (i:Nat) (cs:List AV) (hi:σ[i]?=some cs):AV.inB.inBL m cs=true:=by
 induction σ generalizing i with
 | nil=>simp at hi
 | cons x r ih =>
  simp only [St.inB,aR] at h
  cases i with
  | zero=>simp at hi;subst hi;exact h.1
  | succ i=>simp at hi;exact ih h.2 i hi
theorem pX.cells {k0:Nat}{fr:Fr}{σ σ':St} (h:leS σ σ'):pX k0 fr σ fr σ':=by
 intro c g w tmps hk hi hf
 have hl:=aI1 h
 exact ⟨g,⟨hi.os,hi.tape,hi.output,hi.size,hi.old,hi.Ile,hi.Iold,hi.Ilt,hi.βpre,hi.βnew,hi.βnd,by rw [← hl.1];exact hi.βlen,hi.βI,hi.βlt,hi.τnew,hi.τinj,fun id cs b hs hb=>by
  obtain ⟨bs,hbs,hle⟩:=hl.2 id cs hs
  obtain ⟨cur,e,hh,hc⟩:=hi.store id bs b hbs hb
  exact ⟨cur,e,hh,gB.le hle hc⟩,hi.cell0,hi.glo⟩,hf⟩
def aQo (P:Program) (o:Oper) (fr:Fr) (σ:St) (K:AV→Prop):Prop :=
 match o.op with
 | .call { callee:=.value f,args,argTypes }=>(match fr.ev f with
  | .fn k caps=>∃ as r,AV.leL (AV.lowL [] (args.toList.map fr.ev++caps)) as∧cR P k as [] r []∧K (r.low [])
  | _=>False)
 | _=>aEm P o fr.ev σ (QQ σ K)
theorem aOC {P:Program}{o:Oper}{fr:Fr}{σ:St}{K:AV→Prop} (h:aQo P o fr σ K):∃ v,AQ P o fr.ev σ v∧K v:=by
 unfold aQo at h
 split at h
 ·
  rename_i f args argTypes hop
  split at h
  ·
   rename_i k caps hf
   obtain ⟨as,r,h1,h2,h3⟩:=h
   exact ⟨r.low [],by unfold AQ;simp only [hop,hf];exact ⟨as,r,h1,h2,rfl⟩,h3⟩
  ·
   exact h.elim
 ·
  rename_i hno
  obtain ⟨v,h1,h2⟩:=aOG h
  refine ⟨v,?_,h2⟩
  unfold AQ
  split
  ·
   rename_i f args argTypes hop
   exact absurd hop (hno _ _ _)
  ·
   exact h1
section
variable {P:Program}{V:List Nat}{k0:Nat}{Q:Exit→Fr→St→Prop}{fr:Fr}{σ:St}
end
theorem St.dem_get (f:Nat→Bool):∀ (σ:St) (i:Nat) (cs:List AV),σ[i]?=some cs→(σ.dem f)[i]?=some (AV.demL f cs)
 | [],i,cs,h=>by simp at h
 | x :: r,0,cs,h=>by simp at h;subst h;rfl
 | x :: r,i+1,cs,h=>by simp at h;simpa [St.dem] using St.dem_get f r i cs h
theorem aPJ {k0:Nat}{σ σr:St} (h1:St.dem aB1 (σ.take k0)=σr) (h2:St.inB k0 σr=true):∀ (i:Nat) cs,i<k0→σ[i]?=some cs→AV.inB.inBL k0 (AV.demL aB1 cs)=true:=by
 intro i cs hi hcs
 have:(σ.take k0)[i]?=some cs:=by rw [eX hi];exact hcs
 have h:=St.dem_get aB1 _ i cs this
 rw [h1] at h
 exact St.inB_get h2 i _ h
def Fr.below (fr:Fr):Fr→Prop
 | []=>True
 | (i,b) :: r=>(fr.get i).le b∧Fr.below fr r
theorem Fr.below_get {fr:Fr}:∀ {fr':Fr},Fr.below fr fr'→∀ d,(fr.get d).le (fr'.get d)
 | [],_,d=>AV.le_any _
 | (i,b) :: r,h,d=>by
  simp only [Fr.get]
  split
  ·
   rename_i e;rw [e];exact h.1
  ·
   exact Fr.below_get h.2 d
theorem aPu {k0:Nat}{fr fr':Fr}{σ:St} (h:Fr.below fr fr'):pX k0 fr σ fr' σ:=pX.slots (Fr.below_get h)
theorem aSR {k0:Nat} (m:Nat) {fr fr':Fr}{σ σ':St} (h:Fr.below fr fr') (hm:k0≤m) (hf:fr'.inB m=true) (hs:leS (σ.take m) σ') (hb:St.inB m (σ.take m)=true):pX k0 fr σ fr' σ' :=
 ((aPu h).trans (pX.take hm (fun d=>Fr.inB_get hf d) (fun i cs hi hcs=>St.inB_get hb i cs (by rw [eX hi];exact hcs)))).trans (pX.cells hs)
theorem aGF {a:AV}:AV.le a a=True:=eq_true (AV.le_refl a)
theorem aR9 {k:IntKind}{m n:Int} (h:m=n):AV.le (.c (.int k m)) (.c (.int k n)):=h ▸ AV.le_refl _

/- Tokens renamed: what a loop needs whose slices grow. From a law's data to plain values. A law's row: its arguments, and what is left behind. The printed walks' steps: each operation's rule, its outcome told in typed lists. The printed walks' steps: operations that grow memory, calls, ways that meet, loops, hand-backs. -/
import Derived.Test.YtnigjppddilpcaaGreatDoorAbs19
import Derived.ChangeShapes
import Derived.ChangeSlices
import Derived.ChangeArms
import Derived.ChangeOld
import Derived.DataReads
import Derived.WideShapes
import Derived.Below
import Derived.Test.YtnigjppddilpcaaGreatDoorPk1
namespace Go.Proofs.YtnigjppddilpcaaGreatDoor.Abs
open Go
set_option linter.unusedVariables false
set_option linter.unusedSimpArgs false
variable {mo:Bool}
def Fr.retok (toks:List Nat):Fr→Fr
 | []=>[]
 | (i,a) :: r=>(i,a.retok toks) :: Fr.retok toks r
def St.retok (toks:List Nat):St→St
 | []=>[]
 | cs :: r=>AV.retokL toks cs :: St.retok toks r
theorem St.retok_eq (toks:List Nat) (σ:St):σ.retok toks=σ.map (AV.retokL toks):=by
 induction σ with
 | nil=>rfl
 | cons a l ih=>simp [St.retok,ih]
theorem Fr.get_retok (toks:List Nat) (fr:Fr) (d:Nat):(fr.retok toks).get d=(fr.get d).retok toks:=by
 induction fr with
 | nil=>rfl
 | cons x r ih =>
  obtain ⟨i,a⟩:=x
  simp only [Fr.retok,Fr.get]
  split
  ·
   rfl
  ·
   exact ih
theorem qJ.retok {k0:Nat}{fr:Fr}{σ:St} (toks:List Nat) (hnd:toks.Nodup):qJ k0 fr σ (fr.retok toks) (σ.retok toks):=by
 intro c g w tmps hk hi hf
 refine ⟨⟨g.I,g.β,fun j=>(toks[j]?).bind g.τ⟩,⟨hi.os,hi.tape,hi.output,hi.size,hi.old,hi.Ile,hi.Iold,hi.Ilt,hi.βpre,hi.βnew,hi.βnd,?_,hi.βI,hi.βlt,fun t b ht=>?_,fun t t' b h1 h2=>?_,fun id cs b hs' hb=>?_,hi.cell0,hi.glo⟩,fun d=>?_⟩
 ·
  rw [St.retok_eq,gA];exact hi.βlen
 ·
  change (toks[t]?).bind g.τ=some b at ht
  cases htt:toks[t]? with
  | none=>simp [htt] at ht
  | some s =>
   simp only [htt,aA] at ht
   exact hi.τnew s b ht
 ·
  change (toks[t]?).bind g.τ=some b at h1
  change (toks[t']?).bind g.τ=some b at h2
  cases e1:toks[t]? with
  | none=>simp [e1] at h1
  | some s =>
   cases e2:toks[t']? with
   | none=>simp [e2] at h2
   | some s' =>
    simp only [e1,e2,aA] at h1 h2
    have:=hi.τinj s s' b h1 h2
    subst this
    exact tY hnd e1 e2
 ·
  rw [St.retok_eq,cC,bX] at hs'
  obtain ⟨cs0,hcs0,rfl⟩:=hs'
  obtain ⟨cur,e,hh,hc⟩:=hi.store id cs0 b hcs0 hb
  refine ⟨cur,e,hh,by simpa [AV.retokL_eq] using hc.1,fun i v a hv ha=>?_⟩
  simp only [AV.retokL_eq,cC,bX] at ha
  obtain ⟨a,ha,rfl⟩:=ha
  exact (hc.2 i v a hv ha).retok toks
 ·
  rw [Fr.get_retok];exact (hf d).retok toks
theorem aLN {k0:Nat} (toks:List Nat) (hnd:toks.Nodup) (m:Nat) {fr fr':Fr}{σ σ':St} (h:Fr.below (fr.retok toks) fr') (hm:k0≤m) (hf:fr'.inB m=true) (hs:leS ((σ.retok toks).take m) σ') (hb:St.inB m ((σ.retok toks).take m)=true):qJ k0 fr σ fr' σ' :=
 (qJ.retok toks hnd).trans (aR3 m h hm hf hs hb)
section
variable {P:Program}{ops r:List Oper}{d:Option Tmp}{op:Op}{ty:TypeId}{pos:String}{af:Array Edge}{j:Nat}{fr:Fr}{σ:St}{K:Fr→St→Prop}{Kq:Fr→Prop}
theorem tF (h:aop P ⟨d,op,ty,pos,af,none⟩ fr σ fun fr σ=>mJ mo P ops r fr σ K):mJ mo P ops (⟨d,op,ty,pos,af,none⟩ :: r) fr σ K:=aK5 h
end
end Go.Proofs.YtnigjppddilpcaaGreatDoor.Abs
namespace Go.Proofs.YtnigjppddilpcaaGreatDoor.Abs
open Go
set_option linter.unusedVariables false
set_option linter.unusedSimpArgs false
def aKY (S:TypeId→List PV→Prop):List TypeId→List PV→Prop
 | [],ps=>ps=[]
 | t :: ts,ps=>∃ p q,ps=p++q∧S t p∧aKY S ts q
def sH (P:Program):Nat→TypeId→List PV→Prop
 | 0,_,_=>False
 | n+1,t,ps=>match P.underlying t with
  | some .bool=>∃ b,ps=[.bool b]
  | some (.int k)=>∃ x,ps=[.int k x]∧(Lit.int k x).wf=true
  | some .string=>∃ s:List UInt8,ps=[.str s]∧s.length≤140737488351232
  | some (.slice e)=>∃ xs,ps=[.list (P.cellsOf e) xs]∧(∀ x∈xs,sH P n e x)∧xs.length≤9223372036854775807∧xs.length*P.bytesOf e≤140737488351232
  | some (.struct fs)=>aKY (sH P n) (fs.toList.map (·.type)) ps
  | _=>False
def aJj (P:Program):Nat→List Field→Option Nat
 | o,[]=>some o
 | o,f :: r=>if f.offset=o then aJj P (o+P.cellsOf f.type) r else none
def aIa (P:Program) (L:List TypeId):Bool:=L.all fun t=>match P.underlying t with
 | some .bool=>true
 | some (.int _)=>true
 | some .string=>true
 | some (.slice e)=>L.contains e&&decide (0<P.cellsOf e)
 | some (.struct fs)=>fs.toList.all (fun f=>L.contains f.type)&&aJj P 0 fs.toList==some (P.cellsOf t)
 | _=>false
def old (W:World):Nat→Nat→Prop:=fun b _=>b<W.heap.size
def RVs (W:World) (cs:List Value) (ps:List PV):Prop:=ps.length=cs.length∧∀ (i:Nat) v p,cs[i]?=some v→ps[i]?=some p→RV (old W) W v p
theorem RVs.one {W:World}{v:Value}{p:PV} (h:RV (old W) W v p):RVs W [v] [p]:=⟨rfl,fun i v' p' h1 h2=>by cases i with
 | zero=>simp at h1 h2;subst h1;subst h2;exact h
 | succ i=>simp at h1⟩
theorem RVs.app {W:World}{cs cs':List Value}{ps ps':List PV} (h:RVs W cs ps) (h':RVs W cs' ps'):RVs W (cs++cs') (ps++ps'):=by
 refine ⟨by simp [h.1,h'.1],fun i v p h1 h2=>?_⟩
 by_cases hi:i<cs.length
 ·
  rw [cT hi] at h1
  rw [cT (by rw [h.1];exact hi)] at h2
  exact h.2 i v p h1 h2
 ·
  rw [dH (by omega)] at h1
  rw [dH (by rw [h.1];omega),h.1] at h2
  exact h'.2 _ v p h1 h2
theorem aHn {α:Type}{R:Nat→α→Prop}:∀ (n:Nat),(∀ i,i<n→∃ x,R i x)→∃ xs:List α,xs.length=n∧∀ (i:Nat) x,xs[i]?=some x→R i x
 | 0,_=>⟨[],rfl,fun i x h=>by simp at h⟩
 | n+1,h=>by
  obtain ⟨xs,hl,hx⟩:=aHn n (fun i hi=>h i (by omega))
  obtain ⟨y,hy⟩:=h n (by omega)
  refine ⟨xs++[y],by simp [hl],fun i x hi=>?_⟩
  by_cases hin:i<n
  ·
   rw [cT (by omega)] at hi
   exact hx i x hi
  ·
   rw [dH (by omega)] at hi
   have:i=n:=by
    have:=(bR.1 hi).1
    simp at this;omega
   subst this
   simp [hl] at hi
   subst hi
   exact hy
theorem aEH (b o n:Nat):(⟨b,o,none⟩:Addr).add n=⟨b,o+n,none⟩:=by
 unfold Addr.add
 split
 ·
  rename_i h;subst h;rfl
 ·
  rfl
theorem aPW {W:World}{a:Addr}{u:Value} (h:W.cell? a=some u):a.spot=none∧a.block<W.heap.size:=by
 unfold World.cell? at h
 split at h
 ·
  rename_i c e y hb
  split at h
  ·
   cases h
  ·
   rename_i hs
   exact ⟨by simpa using hs,(kM.1 hb).1⟩
 ·
  cases h
theorem aNh {P:Program}{W:World}{cs:List Value}{S:TypeId→List PV→Prop}:∀ (l:List Field) (o:Nat),aJj P o l=some cs.length →
  (∀ f∈l,∃ ps,RVs W ((cs.drop f.offset).take (P.cellsOf f.type)) ps∧S f.type ps)→∃ ps,RVs W (cs.drop o) ps∧aKY S (l.map (·.type)) ps
 | [],o,h,_=>by
  simp only [aJj,bH] at h
  subst h
  exact ⟨[],⟨by simp,fun i v p h1=>by simp at h1⟩,rfl⟩
 | f :: r,o,h,hf=>by
  simp only [aJj] at h
  split at h
  ·
   rename_i ho
   obtain ⟨ps,h1,h2⟩:=hf f (by simp)
   obtain ⟨qs,h3,h4⟩:=aNh r _ h (fun f' hf'=>hf f' (by simp [hf']))
   refine ⟨ps++qs,?_,ps,qs,rfl,h2,h4⟩
   have:=h1.app h3
   rw [ho,← kG,jM] at this
   exact this
  ·
   cases h
theorem aHv {H:Type}{P:Program}{e:TypeId}{y:Nat}:∀ {l:List (DataW H)}{d:DataW H},d∈l→y∈d.weights P e→y∈DataW.weightsAll P e l
 | [],d,h,_=>by simp at h
 | d' :: r,d,h,hy=>by
  simp only [DataW.weightsAll,fA]
  rcases eQ.1 h with rfl | h
  ·
   exact .inl hy
  ·
   exact .inr (aHv h hy)
theorem aDM {H:Type}{P:Program}{y:Nat}:∀ {ts:List TypeId}{ds:List (DataW H)}{i:Nat}{t:TypeId}{d:DataW H},ts[i]?=some t→ds[i]?=some d→y∈d.weights P t→y∈DataW.weightsEach P ts ds
 | [],ds,i,t,d,h,_,_=>by simp at h
 | t' :: ts,[],i,t,d,_,h,_=>by simp at h
 | t' :: ts,d' :: ds,0,t,d,h1,h2,hy=>by
  simp only [List.getElem?_cons_zero,bH] at h1 h2
  subst h1 h2
  simp only [DataW.weightsEach,fA]
  exact .inl hy
 | t' :: ts,d' :: ds,i+1,t,d,h1,h2,hy=>by
  simp only [oT] at h1 h2
  simp only [DataW.weightsEach,fA]
  exact .inr (aDM h1 h2 hy)
theorem aJG {H:Type}{P:Program}{ts:List TypeId}{ds:List (DataW H)} (h:(DataW.weightsEach P ts ds).all (·≤reachBytes)=true) (i:Nat) {t:TypeId}{d:DataW H} (h1:ts[i]?=some t) (h2:ds[i]?=some d) :
  ∀ y∈d.weights P t,y≤140737488351232:=fun y hy=>by
 have:=cI.1 h y (aDM h1 h2 hy)
 simp only [cB] at this
 exact this
theorem aTv {H:Type}{enc:TypeId × Value→H}{P:Program}{W:World}{spare:Nat→Bool}{held:Bool}{L:List TypeId} (hL:aIa P L=true):∀ (fuel:Nat) (t:TypeId) (cs:List Value) (x:DataW H × List MemPlace),t∈L →
  DataW.trod enc P W 0 spare held fuel t cs=some x→(∀ y∈x.1.weights P t,y≤140737488351232)→∃ ps,RVs W cs ps∧sH P fuel t ps:=by
 intro fuel
 induction fuel with
 | zero=>intro t cs x _ h;simp [DataW.trod] at h
 | succ n ih =>
  intro t cs x ht h hwt
  have hp:=cI.1 hL t ht
  split at hp
  ·
   rename_i hu
   obtain ⟨b,rfl,_⟩:=DataW.trod_bool hu h
   exact ⟨[.bool b],.one (.bool b),by simp [sH,hu]⟩
  ·
   rename_i k hu
   obtain ⟨m,rfl,_,hw⟩:=DataW.trod_int hu h
   exact ⟨[.int k m],.one (.int k m),by simp [sH,hu,hw]⟩
  ·
   rename_i hu
   obtain ⟨s,rfl,rfl,hs⟩:=DataW.trod_string hu h
   have hs2:=hwt s.data.toList.length (by simp [DataW.weights])
   refine ⟨[.str s.data.toList],.one ?_,?_⟩
   ·
    have:=RV.str (I:=old W) (w:=W) s.data.toList
    simpa using this
   ·
    simp only [sH,hu]
    exact ⟨_,rfl,hs2⟩
  ·
   rename_i e hu
   simp only [aY,cB,jL] at hp
   rcases DataW.trod_slice hu h with ⟨rfl,_⟩ | ⟨a,len,cap,elems,rest,m,hm,rfl,rfl,_,hlc,hcm,hel,hget,_⟩
   ·
    refine ⟨[.list (P.cellsOf e) []],.one (.empty _ _ _),?_⟩
    simp only [sH,hu]
    exact ⟨[],rfl,by simp,by simp,by simp⟩
   ·
    obtain rfl:n=m:=by omega
    have hwt2:∀ y∈(elems.length+rest.length)*P.bytesOf e :: (DataW.weightsAll P e (elems.map (·.1))++DataW.weightsAll P e (rest.map (·.1))),y≤140737488351232:=fun y hy=>hwt y (by
     have:DataW.weights P t (DataW.slice (elems.map (·.1)) (rest.map (·.1)))=(elems.length+rest.length)*P.bytesOf e :: (DataW.weightsAll P e (elems.map (·.1))++DataW.weightsAll P e (rest.map (·.1))):=by simp [DataW.weights,hu]
     simp only [this]
     exact hy)
    have hbytes:=hwt2 _ (List.mem_cons_self ..)
    have key:∀ i,i<len→∃ ps,(∃ csi,W.cells? 0 (a.add (i*P.cellsOf e)) (P.cellsOf e)=some csi∧RVs W csi ps)∧sH P n e ps:=by
     intro i hi
     have hg:=hget i hi
     rw [aK (by omega),oV] at hg
     obtain ⟨csi,h1,h2⟩:=hg
     obtain ⟨ps,h3,h4⟩:=ih e csi _ hp.1 h2 (fun y hy=>hwt2 y (jB _ (fA.2 (.inl (aHv (List.mem_map_of_mem (bZ _)) hy)))))
     exact ⟨ps,⟨csi,h1,h3⟩,h4⟩
    obtain ⟨xs,hxl,hx⟩:=aHn len key
    have hsh:∀ x∈xs,sH P n e x:=fun x hxm=>by
     obtain ⟨i,hi⟩:=jQ hxm
     exact (hx i x hi).2
    have hsz:∀ (i:Nat) x,xs[i]?=some x→x.length=P.cellsOf e∧∀ j,j<P.cellsOf e→∃ u p,W.cell? ((a.add (i*P.cellsOf e)).add j)=some u∧x[j]?=some p∧RV (old W) W u p:=by
     intro i x hi
     obtain ⟨⟨csi,h1,h2⟩,_⟩:=hx i x hi
     obtain ⟨hb,hlen,hcell⟩:=World.cells?_some h1
     refine ⟨h2.1.trans hlen,fun j hj=>?_⟩
     have hjc:j<csi.length:=by omega
     have hjx:j<x.length:=by rw [h2.1];exact hjc
     refine ⟨csi[j],x[j],?_,aK hjx,h2.2 j _ _ (aK hjc) (aK hjx)⟩
     have:=hcell j hj
     rw [aK hjc] at this
     exact this
    refine ⟨[.list (P.cellsOf e) xs],.one ?_,?_⟩
    ·
     by_cases h0:len=0
     ·
      subst h0
      obtain rfl:xs=[]:=eY hxl
      exact .empty _ _ _
     ·
      have hspot:a.spot=none∧a.block<W.heap.size:=by
       have h00:xs[0]?=some xs[0]:=aK (by omega)
       obtain ⟨u,p,h1,_⟩:=(hsz 0 _ h00).2 0 hp.2
       have e0:(a.add (0*P.cellsOf e)).add 0=a:=by simp [Addr.add]
       rw [e0] at h1
       exact aPW h1
      obtain ⟨b,o,s⟩:=a
      obtain ⟨rfl,hbl⟩:=hspot
      rw [← hxl]
      refine .row b o cap (P.cellsOf e) xs (fun j=>(W.cell? ⟨b,o+j,none⟩).getD undef) (fun x hxm=>?_) (by omega) (fun j hj=>⟨hbl,?_⟩) (fun i j x p hi hj=>?_)
      ·
       obtain ⟨i,hi⟩:=jQ hxm
       exact (hsz i x hi).1
      ·
       have hi:j / P.cellsOf e<xs.length:=by rw [qB hp.2];exact hj
       obtain ⟨u,p,h1,_⟩:=(hsz _ _ (aK hi)).2 (j % P.cellsOf e) (Nat.mod_lt _ hp.2)
       have e2:j / P.cellsOf e*P.cellsOf e+j % P.cellsOf e=j:=by rw [pD];exact Nat.div_add_mod _ _
       rw [aEH,aEH,jR,e2] at h1
       simp [h1]
      ·
       have hjl:j<P.cellsOf e:=by rw [← (hsz i x hi).1];exact (bR.1 hj).1
       obtain ⟨u,p',h1,h2,h3⟩:=(hsz i x hi).2 j hjl
       rw [hj] at h2
       cases h2
       rw [aEH,aEH,jR] at h1
       simpa [h1] using h3
    ·
     simp only [sH,hu]
     exact ⟨xs,rfl,hsh,by rw [hxl];unfold maxLen at hcm;omega,by rw [hxl];exact mH (gR _ (by omega)) hbytes⟩
  ·
   rename_i fs hu
   simp only [aY,cI,jL,oB] at hp
   obtain ⟨xs,m,hm,rfl,hlen,hxl,hget⟩:=DataW.trod_struct hu h
   obtain rfl:n=m:=by omega
   obtain ⟨ps,h1,h2⟩:=aNh (S:=sH P n) fs.toList 0 (hp.2.trans (by rw [hlen])) (fun f hf=>by
    obtain ⟨i,hi⟩:=jQ hf
    have hi':fs[i]?=some f:=by simpa using hi
    have hil:i<xs.length:=by rw [hxl];exact (kM.1 hi').1
    have hg:=hget i f hi'
    rw [aK hil] at hg
    refine ih f.type _ _ (hp.1 f hf) hg (fun y hy=>hwt y ?_)
    have:DataW.weights P t (DataW.agg (xs.map (·.1)))=DataW.weightsEach P (fs.toList.map (·.type)) (xs.map (·.1)):=by simp [DataW.weights,hu]
    simp only [this]
    exact aDM (i:=i) (by rw [cC,hi];rfl) (by rw [cC,aK hil];rfl) hy)
   exact ⟨ps,by simpa using h1,by simpa [sH,hu] using h2⟩
  ·
   cases hp
open Go RowKit
def aVz (W:World):G:=⟨old W,[],fun _=>none⟩
theorem aKy {P:Program}{f:FuncId}{args:List AV}{W:World}{vs:Array Value} (hc:cX P f args [] (.c (.bool true)) []) (hv:fZ (aVz W) W vs args) (hg:Glo (old W) W) :
  Calls P f vs W fun e w'=>e=.returned (.bool true)∧Below W.heap.size W w':=by
 have h:=hc.2 W (old W) [] (fun _=>none) vs (fun b o hb=>hb) (by simp) (by simp) (by simp) (by simp) (by simp) rfl (by simp) hv hg
 refine h.mono fun e w' he=>?_
 obtain ⟨v,g',rfl,hi,hr⟩:=he
 obtain ⟨⟩ | _:=hr
 rename_i h
 cases h
 exact ⟨rfl,hi.os,hi.tape,hi.output,hi.size,fun k hk=>hi.old k hk (by simp) (fun h=>by obtain ⟨t,h⟩:=h;cases h)⟩
theorem aI3 {g:G}{w:World}:fZ g w #[] []:=⟨rfl,fun i v a h=>by simp at h⟩
theorem aHq {g:G}{w:World}{v:Value}{a:AV}{vs:List Value}{as:List AV} (h:nZ g w v a) (t:fZ g w vs.toArray as):fZ g w (v :: vs).toArray (a :: as):=by
 refine ⟨by simpa using t.1,fun i u b hu hb=>?_⟩
 cases i with
 | zero=>simp at hu hb;subst hu;subst hb;exact h
 | succ i=>exact t.2 i u b (by simpa using hu) (by simpa using hb)
theorem aMN {H:Type}{enc:TypeId × Value→H}{P:Program}{W:World}{base:Nat}{spare:Nat→Bool}{held:Bool}{L:List TypeId} (hL:aIa P L=true) {t:TypeId} (ht:t∈L) {v:Value}{d:DataW H}{mp:List MemPlace}
  (hk:kH P t=1∨kH P t=2∨kH P t=3∨kH P t=4) (hv:Value.okWide P W .any base t v) (h:DataW.Trod enc P W 0 spare held t v d mp) (hwt:∀ y∈d.weights P t,y≤140737488351232):∃ p n,nZ (aVz W) W v (.c p)∧sH P n t [p]:=by
 obtain ⟨fuel,hf⟩:=h
 obtain ⟨ps,h1,h2⟩:=aTv hL fuel t _ _ ht hf hwt
 have hone:v.cells.toList=[v]:=by
  have hp:=cI.1 hL t ht
  unfold kH at hk
  split at hp
  ·
   rename_i hu
   simp only [Value.okWide,hu] at hv
   cases v <;> simp_all [Value.cells,Cell.okWide,Cell.ok]
  ·
   rename_i hu
   simp only [Value.okWide,hu] at hv
   cases v <;> simp_all [Value.cells,Cell.okWide,Cell.ok]
  ·
   rename_i hu
   simp only [Value.okWide,hu] at hv
   cases v <;> simp_all [Value.cells,Cell.okWide,Cell.ok]
  ·
   rename_i hu
   simp only [Value.okWide,hu] at hv
   cases v <;> simp_all [Value.cells,Cell.okWide,Cell.ok]
  ·
   rename_i hu
   simp [hu] at hk
  ·
   cases hp
 rw [hone] at h1
 obtain ⟨p,rfl⟩:∃ p,ps=[p]:=by
  match ps,h1.1 with
  | [p],_=>exact ⟨p,rfl⟩
 exact ⟨p,fuel,.c (h1.2 0 v p rfl rfl),h2⟩
variable {mo:Bool}
def PV.ls {α:Type} (sz:Nat) (row:α→List PV) (xs:List α):PV:=.list sz (xs.map row)
def AV.os {α:Type} (t sz:Nat) (row:α→List PV) (xs:List α):AV:=.own t sz (xs.map row)
abbrev aI {k:IntKind}{n:Int}:AV:=.c (.int k n)
abbrev aB {b:Bool}:AV:=.c (.bool b)
abbrev aS {s:List UInt8}:AV:=.c (.str s)
abbrev aL {α:Type}{sz:Nat}{row:α→List PV}{xs:List α}:AV:=.c (PV.ls sz row xs)
abbrev aO {α:Type}{t sz:Nat}{row:α→List PV}{xs:List α}:AV:=AV.os t sz row xs
def AV.cs (l:List PV):List AV:=l.map .c
def gv (c:Bool) (v:AV):AV:=if c then v else .tup []
theorem gx {c:Bool}{x v:AV} (h:x=gv c v) (hc:c=true):x=v:=by rw [h,gv,aT hc]
def isl {α:Type} (a:AV) (sz:Nat) (row:α→List PV) (xs:List α):Prop:=a=.c (PV.ls sz row xs)∨∃ t,a=.os t sz row xs
theorem eA {α:Type}{a:AV}{sz:Nat}{row:α→List PV}{xs:List α} (h:a=.c (PV.ls sz row xs)):isl a sz row xs:=.inl h
theorem nB {α:Type}{a:AV}{t sz:Nat}{row:α→List PV}{xs:List α} (h:a=.os t sz row xs):isl a sz row xs:=.inr ⟨t,h⟩
def Pv (P:Program) (o:Oper) (ev:Operand→AV) (σ:St) (v:AV):Prop:=∀ K:Option (Nat→Bool)→AV→St→Prop,K .none v σ→aEc P o ev σ K
def aAY (o:Oper):Bool:=match o.op with | .call { callee:=.value _,.. }=>false | _=>(aBV o).isNone
theorem wF {P:Program}{o:Oper}{fr:Fr}{σ:St}{K:Fr→St→Prop} (hp:aAY o=true) (h:aEc P o fr.ev σ fun dm v σ'=>K ((fr.demo dm).put o.dst v) σ'):aop P o fr σ K:=by
 unfold aAY at hp
 unfold aop
 split at hp
 ·
  cases hp
 ·
  rename_i hno
  split
  ·
   rename_i f args argTypes hop
   exact absurd hop (hno _ _ _)
  ·
   split
   ·
    rename_i hn;rw [hn] at hp;cases hp
   ·
    exact h
theorem aNL {P:Program}{o:Oper}{fr:Fr}{σ:St}{K:AV→Prop} (hp:aAY o=true) (h:aEc P o fr.ev σ (QQ σ K)):aPH P o fr σ K:=by
 unfold aAY at hp
 unfold aPH
 split at hp
 ·
  cases hp
 ·
  rename_i hno
  split
  ·
   rename_i f args argTypes hop
   exact absurd hop (hno _ _ _)
  ·
   exact h
def aE8 (ops:List Oper) (j:Nat):Option Nat:=(ops[j]?).bind (·.dst)
theorem aSb {ops:List Oper}{o:Oper}{j dj:Nat}{w b:Bool}{get:Nat→AV}{yes no:Prop} (hg:o.guard=some (j,w)) (hj:aE8 ops j=some dj) (hs:get dj=.c (.bool b)) (hy:b=w→yes) (hn:b≠w→no):rA ops o get yes no:=by
 unfold aE8 at hj
 obtain ⟨p,hp,hd⟩:=oV.1 hj
 unfold rA
 rw [hg]
 simp only [hp,hd,hs]
 exact ⟨hy,hn⟩
theorem aWm {ops:List Oper}{o:Oper}{j dj:Nat}{w:Bool}{get:Nat→AV}{yes no:Prop} (hg:o.guard=some (j,w)) (hj:aE8 ops j=some dj) (hs:get dj=.tup []) (hn:no):rA ops o get yes no:=by
 unfold aE8 at hj
 obtain ⟨p,hp,hd⟩:=oV.1 hj
 unfold rA
 rw [hg]
 simp only [hp,hd,hs]
 exact hn
section
variable {P:Program}{all r:List Oper}{d dj j:Nat}{op:Op}{ty:TypeId}{pos:String}{af:Array Edge}{fr:Fr}{σ:St}{K:Fr→St→Prop}{Kq:Fr→Prop}{v:AV}{b c w:Bool}
theorem aU (hp:aAY ⟨some d,op,ty,pos,af,none⟩=true) (hv:Pv P ⟨some d,op,ty,pos,af,none⟩ fr.ev σ v) (h:mJ mo P all r ((d,v) :: fr) σ K):mJ mo P all (⟨some d,op,ty,pos,af,none⟩ :: r) fr σ K:=aK5 <|
 wF hp (hv _ h)
def Qv (P:Program) (o:Oper) (fr:Fr) (σ:St) (v:AV):Prop:=∀ K:AV→Prop,K v→aPH P o fr σ K
theorem mG {o:Oper} (hp:aAY o=true) (hv:Pv P o fr.ev σ v):Qv P o fr σ v:=fun K h=>aNL hp (hv _ ⟨rfl,rfl,h⟩)
def Ov (P:Program) (o:Oper) (fr:Fr) (σ:St) (v:AV):Prop:=∀ K:Fr→St→Prop,K (fr.put o.dst v) σ→aop P o fr σ K
theorem iI {o:Oper} (hp:aAY o=true) (hv:Pv P o fr.ev σ v):Ov P o fr σ v:=fun K h=>wF hp (hv _ h)
theorem zG (hj:aE8 all j=some dj) (hs:fr.get dj=.c (.bool b)) (hv:(b==w)=true→Ov P ⟨some d,op,ty,pos,af,some (j,w)⟩ fr σ v) (h:mJ mo P all r ((d,gv (b==w) v) :: fr) σ K):mJ mo P all (⟨some d,op,ty,pos,af,some (j,w)⟩ :: r) fr σ K:=by
 refine aSb rfl hj hs (fun e=>?_) (fun e=>?_)
 ·
  have e':(b==w)=true:=by simp [e]
  refine aK5 (hv e' _ ?_)
  rw [e',gv,aT rfl] at h
  exact h
 ·
  have e':(b==w)=false:=by simpa using e
  rw [e',gv,aQ (by simp)] at h
  exact h
theorem hZ (hj:aE8 all j=some dj) (hs:fr.get dj=gv c (.c (.bool b))) (hv:(c&&(b==w))=true→Ov P ⟨some d,op,ty,pos,af,some (j,w)⟩ fr σ v) (h:mJ mo P all r ((d,gv (c&&(b==w)) v) :: fr) σ K):mJ mo P all (⟨some d,op,ty,pos,af,some (j,w)⟩ :: r) fr σ K:=by
 cases c with
 | true =>
  rw [cL] at h hv
  exact zG hj (by rw [hs,gv,aT rfl]) hv h
 | false =>
  rw [gv,aQ (by simp)] at hs
  rw [Bool.false_and,gv,aQ (by simp)] at h
  exact aWm rfl hj hs h
theorem aKm {dst:Option Tmp}{g g':Option (Nat × Bool)}:aop P ⟨dst,op,ty,pos,af,g⟩ fr σ K=aop P ⟨dst,op,ty,pos,af,g'⟩ fr σ K:=by
 cases op
 case call c=>obtain ⟨callee,args,argTypes⟩:=c;cases callee <;> first | rfl | (rename_i b;cases b <;> rfl)
 case slice t x lo hi mx=>cases mx <;> rfl
 case makeFunc fn f cs=>cases fn <;> rfl
 all_goals rfl
theorem aNH {dst:Option Tmp}{g g':Option (Nat × Bool)}:aNG P ⟨dst,op,ty,pos,af,g⟩ fr σ K=aNG P ⟨dst,op,ty,pos,af,g'⟩ fr σ K:=aKm
theorem aNF {dst:Option Tmp}{g g':Option (Nat × Bool)}:aSD mo P ⟨dst,op,ty,pos,af,g⟩ fr σ K=aSD mo P ⟨dst,op,ty,pos,af,g'⟩ fr σ K:=by
 cases mo
 ·
  exact aKm
 ·
  exact aNH
theorem nK {dst:Option Tmp} (hj:aE8 all j=some dj) (hs:fr.get dj=.c (.bool b)) (hb:b=w) (h:mJ mo P all (⟨dst,op,ty,pos,af,none⟩ :: r) fr σ K):mJ mo P all (⟨dst,op,ty,pos,af,some (j,w)⟩ :: r) fr σ K :=
 aSb rfl hj hs (fun _=>by rw [aNF (g':=none)];exact h) (fun e=>absurd hb e)
theorem aAk {dst:Option Tmp} (hj:aE8 all j=some dj) (hs:fr.get dj=.c (.bool b)) (hb:b=!w) (h:mJ mo P all r (fr.put dst (.tup [])) σ K):mJ mo P all (⟨dst,op,ty,pos,af,some (j,w)⟩ :: r) fr σ K :=
 aSb rfl hj hs (fun e=>by subst e;cases b <;> simp at hb) (fun _=>h)
end
section
variable {P:Program}{d:Option Tmp}{ty:TypeId}{pos:String}{af:Array Edge}{gd:Option (Nat × Bool)}{ev:Operand→AV}{σ:St}{x y z:Operand}{t t2:TypeId}{k k':IntKind}{a b:Int}{v:AV}
theorem bK (hx:ev x=v):Pv P ⟨d,.move x,ty,pos,af,gd⟩ ev σ v:=fun K h=>by (refine .inl ?_;simp only [eD]);rw [hx];exact h
theorem aGd (hx:ev x=v):Pv P ⟨d,.assign x,ty,pos,af,gd⟩ ev σ v:=fun K h=>by (refine .inl ?_;simp only [eD]);rw [hx];exact h
theorem aRy {q p1 p2:Bool} (hx:ev x=.c (.bool q)) (hy:ev y=.c (.bool p1)) (hz:ev z=.c (.bool p2)):Pv P ⟨d,.pick x y z,ty,pos,af,gd⟩ ev σ (.c (.bool (cond q p1 p2))):=fun K h=>by
 (refine .inl ?_;simp only [eD,hx,hy,hz])
 cases q <;> exact h
theorem cS {q p1 p2 c:Bool} (hx:ev x=.c (.bool q)) (hy:ev y=gv c (.c (.bool p1))) (hz:ev z=.c (.bool p2)) (hc:q=true→c=true):Pv P ⟨d,.pick x y z,ty,pos,af,gd⟩ ev σ (.c (.bool (cond q p1 p2))):=by
 cases c with
 | true=>exact aRy hx (by rw [hy,gv,aT rfl]) hz
 | false =>
  cases q with
  | true=>cases hc rfl
  | false =>
   intro K h
   (refine .inl ?_;simp only [eD,hx,hy,hz,gv,aQ (show ¬(false=true) by simp)])
   exact ⟨fun e=>(by cases e),fun _=>h⟩
theorem dK {q p1 p2 c:Bool} (hx:ev x=.c (.bool q)) (hy:ev y=.c (.bool p1)) (hz:ev z=gv c (.c (.bool p2))) (hc:q=false→c=true):Pv P ⟨d,.pick x y z,ty,pos,af,gd⟩ ev σ (.c (.bool (cond q p1 p2))):=by
 cases c with
 | true=>exact aRy hx hy (by rw [hz,gv,aT rfl])
 | false =>
  cases q with
  | false=>cases hc rfl
  | true =>
   intro K h
   (refine .inl ?_;simp only [eD,hx,hy,hz,gv,aQ (show ¬(false=true) by simp)])
   exact ⟨fun _=>h,fun e=>(by cases e)⟩
theorem aR {id off n:Nat}{cs:List AV} (ht:lM P t=some (false,n)) (hx:ev x=.box id off) (hs:σ[id]?=some cs) (hc:cs[off]?=some v):Pv P ⟨d,.load t x,ty,pos,af,gd⟩ ev σ v:=fun K h=>by
 (refine .inl ?_;simp only [eD,ht,hx,aA8,hs,hc]);exact h
theorem eL {id off n:Nat}{cs us:List AV} (ht:lM P t=some (true,n)) (hx:ev x=.box id off) (hs:σ[id]?=some cs) (hn:Nat.ble (off+n) cs.length=true) (hc:(cs.drop off).take n=us):Pv P ⟨d,.load t x,ty,pos,af,gd⟩ ev σ (.agg us):=fun K h=>by
 (refine .inl ?_;simp only [eD,ht,hx,aA8,hs]);subst hc;exact ⟨by rw [Nat.ble_eq] at hn;exact hn,h⟩
theorem fO {off n:Nat}{cs:List PV}{p:PV} (ht:lM P t=some (false,n)) (hx:ev x=.eptr cs off) (hc:cs[off]?=some p):Pv P ⟨d,.load t x,ty,pos,af,gd⟩ ev σ (.c p):=fun K h=>by
 (refine .inl ?_;simp only [eD,ht,hx,aA8,hc]);exact h
theorem nL {off n:Nat}{cs us:List PV} (ht:lM P t=some (true,n)) (hx:ev x=.eptr cs off) (hn:Nat.ble (off+n) cs.length=true) (hc:(cs.drop off).take n=us):Pv P ⟨d,.load t x,ty,pos,af,gd⟩ ev σ (.agg (AV.cs us)):=fun K h=>by
 (refine .inl ?_;simp only [eD,ht,hx,aA8]);subst hc;exact ⟨by rw [Nat.ble_eq] at hn;exact hn,h⟩
theorem kC {n:Nat}{p:Nat × Nat} (ht:lM P t=some (false,n)) (hx:ev x=.pptr p):Pv P ⟨d,.load t x,ty,pos,af,gd⟩ ev σ (.box p.1 p.2):=fun K h=>by
 (refine .inl ?_;simp only [eD,ht,hx,aA8]);exact ⟨trivial,h⟩
theorem iV {i m:Nat} (hx:ev x=.box i m):Pv P ⟨d,.nilCheck x,ty,pos,af,gd⟩ ev σ (.box i m):=fun K h=>by (refine .inl ?_;simp only [eD,hx]);exact h
theorem fX (hx:ev x=.c (.int k a)) (hy:ev y=.c (.int k b)):Pv P ⟨d,.binOp .add t x y t2,ty,pos,af,gd⟩ ev σ (.c (.int k (k.wrap (a+b)))):=fun K h=>by (refine .inl ?_;simp only [eD,yG,hx,hy]);exact ⟨trivial,h⟩
theorem aCQ (hx:ev x=.c (.int k a)) (hy:ev y=.c (.int k b)):Pv P ⟨d,.binOp .sub t x y t2,ty,pos,af,gd⟩ ev σ (.c (.int k (k.wrap (a - b)))):=fun K h=>by (refine .inl ?_;simp only [eD,yG,hx,hy]);exact ⟨trivial,h⟩
theorem aMP (hx:ev x=.c (.int k a)) (hy:ev y=.c (.int k b)):Pv P ⟨d,.binOp .mul t x y t2,ty,pos,af,gd⟩ ev σ (.c (.int k (k.wrap (a*b)))):=fun K h=>by (refine .inl ?_;simp only [eD,yG,hx,hy]);exact ⟨trivial,h⟩
theorem aRz (hx:ev x=.c (.int k a)) (hy:ev y=.c (.int k b)) (h0:b≠0):Pv P ⟨d,.binOp .quo t x y t2,ty,pos,af,gd⟩ ev σ (.c (.int k (k.wrap (a.tdiv b)))):=fun K h=>by (refine .inl ?_;simp only [eD,yG,hx,hy]);exact ⟨trivial,h0,h⟩
theorem aPh (hx:ev x=.c (.int k a)) (hy:ev y=.c (.int k b)) (h0:b≠0):Pv P ⟨d,.binOp .rem t x y t2,ty,pos,af,gd⟩ ev σ (.c (.int k (a.tmod b))):=fun K h=>by (refine .inl ?_;simp only [eD,yG,hx,hy]);exact ⟨trivial,h0,h⟩
theorem cQ (hx:ev x=.c (.int k a)) (hy:ev y=.c (.int k b)):Pv P ⟨d,.binOp .eql t x y t2,ty,pos,af,gd⟩ ev σ (.c (.bool (decide (a=b)))):=fun K h=>by (refine .inl ?_;simp only [eD,yG,hx,hy]);exact ⟨trivial,h⟩
theorem iZ (hx:ev x=.c (.int k a)) (hy:ev y=.c (.int k b)):Pv P ⟨d,.binOp .neq t x y t2,ty,pos,af,gd⟩ ev σ (.c (.bool (!decide (a=b)))):=fun K h=>by (refine .inl ?_;simp only [eD,yG,hx,hy]);exact ⟨trivial,h⟩
theorem fY (hx:ev x=.c (.int k a)) (hy:ev y=.c (.int k b)):Pv P ⟨d,.binOp .lss t x y t2,ty,pos,af,gd⟩ ev σ (.c (.bool (decide (a<b)))):=fun K h=>by (refine .inl ?_;simp only [eD,yG,hx,hy]);exact ⟨trivial,h⟩
theorem rU (hx:ev x=.c (.int k a)) (hy:ev y=.c (.int k b)):Pv P ⟨d,.binOp .leq t x y t2,ty,pos,af,gd⟩ ev σ (.c (.bool (decide (a≤b)))):=fun K h=>by (refine .inl ?_;simp only [eD,yG,hx,hy]);exact ⟨trivial,h⟩
theorem qW (hx:ev x=.c (.int k a)) (hy:ev y=.c (.int k b)):Pv P ⟨d,.binOp .gtr t x y t2,ty,pos,af,gd⟩ ev σ (.c (.bool (decide (b<a)))):=fun K h=>by (refine .inl ?_;simp only [eD,yG,hx,hy]);exact ⟨trivial,h⟩
theorem uE (hx:ev x=.c (.int k a)) (hy:ev y=.c (.int k b)):Pv P ⟨d,.binOp .geq t x y t2,ty,pos,af,gd⟩ ev σ (.c (.bool (decide (b≤a)))):=fun K h=>by (refine .inl ?_;simp only [eD,yG,hx,hy]);exact ⟨trivial,h⟩
theorem aRx (hx:ev x=.c (.int k a)) (hy:ev y=.c (.int k b)):Pv P ⟨d,.binOp .and t x y t2,ty,pos,af,gd⟩ ev σ (.c (.int k (kL .and k a b))):=fun K h=>by (refine .inl ?_;simp only [eD,yG,hx,hy]);exact ⟨trivial,h⟩
theorem aVG (hx:ev x=.c (.int k a)) (hy:ev y=.c (.int k b)):Pv P ⟨d,.binOp .or t x y t2,ty,pos,af,gd⟩ ev σ (.c (.int k (kL .or k a b))):=fun K h=>by (refine .inl ?_;simp only [eD,yG,hx,hy]);exact ⟨trivial,h⟩
theorem aKE (hx:ev x=.c (.int k a)) (hy:ev y=.c (.int k b)):Pv P ⟨d,.binOp .xor t x y t2,ty,pos,af,gd⟩ ev σ (.c (.int k (kL .xor k a b))):=fun K h=>by (refine .inl ?_;simp only [eD,yG,hx,hy]);exact ⟨trivial,h⟩
theorem aTT (hx:ev x=.c (.int k a)) (hy:ev y=.c (.int k' b)) (h0:0≤b):Pv P ⟨d,.binOp .shl t x y t2,ty,pos,af,gd⟩ ev σ (.c (.int k (k.wrap (a*2 ^ (min b.toNat k.bits))))):=fun K h=>by (refine .inl ?_;simp only [eD,yG,hx,hy]);exact ⟨h0,h⟩
theorem aIV (hx:ev x=.c (.int k a)) (hy:ev y=.c (.int k' b)) (h0:0≤b):Pv P ⟨d,.binOp .shr t x y t2,ty,pos,af,gd⟩ ev σ (.c (.int k (a.fdiv (2 ^ (min b.toNat k.bits))))):=fun K h=>by (refine .inl ?_;simp only [eD,yG,hx,hy]);exact ⟨h0,h⟩
theorem aOl {s u:List UInt8} (hx:ev x=.c (.str s)) (hy:ev y=.c (.str u)) (h0:s.length+u.length≤9223372036854775807):Pv P ⟨d,.binOp .add t x y t2,ty,pos,af,gd⟩ ev σ (.c (.str (s++u))):=fun K h=>by (refine .inl ?_;simp only [eD,yG,hx,hy]);exact ⟨h0,h⟩
theorem wL {s u:List UInt8} (hx:ev x=.c (.str s)) (hy:ev y=.c (.str u)):Pv P ⟨d,.binOp .eql t x y t2,ty,pos,af,gd⟩ ev σ (.c (.bool (decide (s=u)))):=fun K h=>by (refine .inl ?_;simp only [eD,yG,hx,hy]);exact h
theorem aCx {s u:List UInt8} (hx:ev x=.c (.str s)) (hy:ev y=.c (.str u)):Pv P ⟨d,.binOp .neq t x y t2,ty,pos,af,gd⟩ ev σ (.c (.bool (!decide (s=u)))):=fun K h=>by (refine .inl ?_;simp only [eD,yG,hx,hy]);exact h
theorem aUA {s u:List UInt8} (hx:ev x=.c (.str s)) (hy:ev y=.c (.str u)):Pv P ⟨d,.binOp .lss t x y t2,ty,pos,af,gd⟩ ev σ (.c (.bool (Op.bytesLess s u))):=fun K h=>by (refine .inl ?_;simp only [eD,yG,hx,hy]);exact h
theorem aUx {s u:List UInt8} (hx:ev x=.c (.str s)) (hy:ev y=.c (.str u)):Pv P ⟨d,.binOp .gtr t x y t2,ty,pos,af,gd⟩ ev σ (.c (.bool (!(Op.bytesLess s u||decide (s=u))))):=fun K h=>by (refine .inl ?_;simp only [eD,yG,hx,hy]);exact h
theorem aRA {s u:List UInt8} (hx:ev x=.c (.str s)) (hy:ev y=.c (.str u)):Pv P ⟨d,.binOp .geq t x y t2,ty,pos,af,gd⟩ ev σ (.c (.bool (!Op.bytesLess s u))):=fun K h=>by (refine .inl ?_;simp only [eD,yG,hx,hy]);exact h
theorem aGW {i m:Nat} (ht:kH P t=5) (hx:ev x=.box i m) (hy:ev y=.nilptr):Pv P ⟨d,.binOp .eql t x y t2,ty,pos,af,gd⟩ ev σ (.c (.bool false)):=fun K h=>by (refine .inl ?_;simp only [eD,yG,hx,hy]);exact ⟨ht,h⟩
theorem gX {p:Bool} (hx:ev x=.c (.bool p)):Pv P ⟨d,.unOp .not t x,ty,pos,af,gd⟩ ev σ (.c (.bool (!p))):=fun K h=>by (refine .inl ?_;simp only [eD,hx]);exact h
theorem aPg (hx:ev x=.c (.int k a)):Pv P ⟨d,.unOp .neg t x,ty,pos,af,gd⟩ ev σ (.c (.int k (k.wrap (0 - a)))):=fun K h=>by (refine .inl ?_;simp only [eD,hx]);exact h
theorem uV {kd ks:IntKind} (hs:aCa P t=some ks) (hd:aCa P t2=some kd) (hx:ev x=.c (.int k a)):Pv P ⟨d,.convert t t2 x,ty,pos,af,gd⟩ ev σ (.c (.int kd (kd.wrap a))):=fun K h=>by (refine .inl ?_;simp only [eD,hx,hd,hs]);exact h
theorem aIU {sz:Nat}{xs:List UInt8} (hs:eD.tyBytes P t) (hd:kH P t2=2) (hx:isl (ev x) sz gW xs):Pv P ⟨d,.convert t t2 x,ty,pos,af,gd⟩ ev σ (.c (.str xs)):=fun K h=>by
 rcases hx with hx | ⟨_,hx⟩ <;> (refine .inl ?_;simp only [eD,hx,PV.ls,AV.os]) <;> exact ⟨hs,hd,xs,rfl,h⟩
theorem aUw {f:FuncId}{first captured:Array Operand}{cs:List AV} (hf:first=#[]) (hc:captured.toList.map ev=cs):Pv P ⟨d,.makeFunc (.func f) first captured,ty,pos,af,gd⟩ ev σ (.fn f cs):=fun K h=>by
 (refine .inl ?_;simp only [eD]);subst hc;exact ⟨hf,h⟩
theorem b_l {n:Nat}{a:AV}{l:Int}{kk:Nat→Nat→Prop} (ha:a=.c (.int k l)) (h0:0≤l∧l≤n) (h:kk l.toNat n):uH (some a) .none n kk:=by subst ha;exact ⟨h0.1,h0.2,h⟩
theorem b_h {n:Nat}{a:AV}{l:Int}{kk:Nat→Nat→Prop} (ha:a=.c (.int k l)) (h0:0≤l∧l≤n) (h:kk 0 l.toNat):uH .none (some a) n kk:=by subst ha;exact ⟨h0.1,h0.2,h⟩
theorem b_b {n:Nat}{a a':AV}{l l':Int}{kk:Nat→Nat→Prop} (ha:a=.c (.int k l)) (ha':a'=.c (.int k' l')) (h0:0≤l∧l≤l'∧l'≤n) (h:kk l.toNat l'.toNat):uH (some a) (some a') n kk:=by subst ha;subst ha';exact ⟨h0.1,h0.2.1,h0.2.2,h⟩
theorem aUy {α:Type}{e:TypeId}{sz by_:Nat}{row:α→List PV}{xs:List α}{l h:Nat}{lo hi:Option Operand} (h7:kH P t≠7) (ht:mK P t=some (e,sz,by_)) (hx:isl (ev x) sz row xs)
  (hb:∀ kk:Nat→Nat→Prop,kk l h→uH (lo.map ev) (hi.map ev) xs.length kk):Pv P ⟨d,.slice t x lo hi .none,ty,pos,af,gd⟩ ev σ (.c (PV.ls sz row ((xs.take h).drop l))):=fun K hk=>by
 have e1:PV.ls sz row ((xs.take h).drop l)=.list sz (((xs.map row).take h).drop l):=by simp [PV.ls,List.map_take,List.map_drop]
 rw [e1] at hk
 rcases hx with hx | ⟨t0,hx⟩ <;> (refine .inl ?_;simp only [eD,hx,PV.ls,AV.os,aDb,ht]) <;> exact ⟨h7,trivial,by rw [gA];exact hb _ hk⟩
theorem aIX {α:Type}{e:TypeId}{sz by_:Nat}{row:α→List PV}{xs:List α}{l:Int} (h7:kH P t≠7) (ht:mK P t=some (e,sz,by_)) (hx:isl (ev x) sz row xs) (hy:ev y=.c (.int k l)) (h0:0≤l∧l≤xs.length):Pv P ⟨d,.slice t x (some y) .none .none,ty,pos,af,gd⟩ ev σ (.c (PV.ls sz row (xs.drop l.toNat))):=by
 have:=aUy (d:=d) (ty:=ty) (pos:=pos) (af:=af) (gd:=gd) (σ:=σ) (l:=l.toNat) (h:=xs.length) (lo:=some y) (hi:=.none) h7 ht hx (fun kk=>b_l hy h0)
 simpa using this
theorem aIW {α:Type}{e:TypeId}{sz by_:Nat}{row:α→List PV}{xs:List α}{l:Int} (h7:kH P t≠7) (ht:mK P t=some (e,sz,by_)) (hx:isl (ev x) sz row xs) (hy:ev y=.c (.int k l)) (h0:0≤l∧l≤xs.length):Pv P ⟨d,.slice t x .none (some y) .none,ty,pos,af,gd⟩ ev σ (.c (PV.ls sz row (xs.take l.toNat))):=by
 have:=aUy (d:=d) (ty:=ty) (pos:=pos) (af:=af) (gd:=gd) (σ:=σ) (l:=0) (h:=l.toNat) (lo:=.none) (hi:=some y) h7 ht hx (fun kk=>b_h hy h0)
 simpa using this
theorem aUz {α:Type}{e:TypeId}{sz by_:Nat}{row:α→List PV}{xs:List α}{l h:Int} (h7:kH P t≠7) (ht:mK P t=some (e,sz,by_)) (hx:isl (ev x) sz row xs) (hy:ev y=.c (.int k l)) (hz:ev z=.c (.int k' h)) (h0:0≤l∧l≤h∧h≤xs.length):Pv P ⟨d,.slice t x (some y) (some z) .none,ty,pos,af,gd⟩ ev σ (.c (PV.ls sz row ((xs.take h.toNat).drop l.toNat))) :=
 aUy (l:=l.toNat) (h:=h.toNat) (lo:=some y) (hi:=some z) h7 ht hx (fun kk=>b_b hy hz h0)
theorem gT {α:Type}{sz:Nat}{row:α→List PV}{xs:List α} (ht:kH P t=3) (hx:isl (ev x) sz row xs):Pv P ⟨d,.call { callee:=.builtin .len,args:=#[x],argTypes:=#[t] },ty,pos,af,gd⟩ ev σ (.c (.int .i64 xs.length)):=fun K h=>by
 rcases hx with hx | ⟨_,hx⟩ <;> (refine .inl ?_;simp only [eD,hx,aGI,PV.ls,AV.os,gA]) <;> exact ⟨ht,h⟩
theorem nR {s:List UInt8} (ht:kH P t=2) (hx:ev x=.c (.str s)):Pv P ⟨d,.call { callee:=.builtin .len,args:=#[x],argTypes:=#[t] },ty,pos,af,gd⟩ ev σ (.c (.int .i64 s.length)):=fun K h=>by (refine .inl ?_;simp only [eD,hx,aGI]);exact ⟨ht,h⟩
theorem aLo {l:List (Nat × Nat)} (ht:kH P t=3) (hx:ev x=.ptrs l):Pv P ⟨d,.call { callee:=.builtin .len,args:=#[x],argTypes:=#[t] },ty,pos,af,gd⟩ ev σ (.c (.int .i64 l.length)):=fun K h=>by (refine .inl ?_;simp only [eD,hx,aGI]);exact ⟨ht,h⟩
theorem aVF {ts:Array TypeId} (hx:ev x=.c (.int k a)) (hy:ev y=.c (.int k' b)):Pv P ⟨d,.call { callee:=.builtin .max,args:=#[x,y],argTypes:=ts },ty,pos,af,gd⟩ ev σ (.c (.int k (if b > a then b else a))):=fun K h=>by (refine .inl ?_;simp only [eD,hx,hy]);exact h
theorem bU {f k0 n id off:Nat}{ag:Bool} (ht:fJ P t f=some (k0,ag,n)) (hx:ev x=.box id off):Pv P ⟨d,.fieldAddr t x f,ty,pos,af,gd⟩ ev σ (.box id (off+k0)):=fun K h=>by (refine .inl ?_;simp only [eD,ht,hx]);exact h
theorem yP {f k0 n off:Nat}{ag:Bool}{cs:List PV} (ht:fJ P t f=some (k0,ag,n)) (hx:ev x=.eptr cs off):Pv P ⟨d,.fieldAddr t x f,ty,pos,af,gd⟩ ev σ (.eptr cs (off+k0)):=fun K h=>by (refine .inl ?_;simp only [eD,ht,hx]);exact h
theorem lC {α:Type}{e:TypeId}{sz by_:Nat}{row:α→List PV}{xs:List α}{i:Int}{u:α}{cs:List PV} (ht:mK P t=some (e,sz,by_)) (hx:isl (ev x) sz row xs) (hy:ev y=.c (.int k i)) (hg:lO xs i=some u) (he:row u=cs):Pv P ⟨d,.indexAddr t x y,ty,pos,af,gd⟩ ev σ (.eptr cs 0):=fun K h=>by
 obtain ⟨h0,h1,h2⟩:=aBS hg
 subst he
 have key:∀ r,(xs.map row)[i.toNat]?=some r→K .none (.eptr r 0) σ:=fun r hr=>by
  rw [cC,h2] at hr
  simp at hr
  subst hr
  exact h
 rcases hx with hx | ⟨_,hx⟩ <;> (refine .inl ?_;simp only [eD,ht,hx,hy,PV.ls,AV.os]) <;> exact ⟨trivial,h0,by rw [gA];exact h1,key⟩
theorem oX {e:TypeId}{by_:Nat}{l:List (Nat × Nat)}{i:Int}{p:Nat × Nat} (ht:mK P t=some (e,1,by_)) (hx:ev x=.ptrs l) (hy:ev y=.c (.int k i)) (hg:lO l i=some p):Pv P ⟨d,.indexAddr t x y,ty,pos,af,gd⟩ ev σ (.pptr p):=fun K h=>by
 obtain ⟨h0,h1,h2⟩:=aBS hg
 (refine .inl ?_;simp only [eD,ht,hx,hy])
 exact ⟨trivial,h0,h1,fun q hq=>by rw [h2] at hq;cases hq;exact h⟩
theorem aB0 {s:List UInt8}{i:Int}{u:UInt8} (ht:kH P t=2) (hx:ev x=.c (.str s)) (hy:ev y=.c (.int k i)) (hg:lO s i=some u):Pv P ⟨d,.index t x y,ty,pos,af,gd⟩ ev σ (.c (.int .u8 u.toNat)):=fun K h=>by
 obtain ⟨h0,h1,h2⟩:=aBS hg
 (refine .inl ?_;simp only [eD,hx,hy])
 exact ⟨ht,h0,h1,fun q hq=>by rw [h2] at hq;cases hq;exact h⟩
theorem aCe {vs:List AV}{i:Nat} (hx:ev x=.tup vs) (hv:vs[i]?=some v):Pv P ⟨d,.extract x i,ty,pos,af,gd⟩ ev σ v:=fun K h=>by (refine .inl ?_;simp only [eD,hx,hv]);exact h
def aC9 (places:Nat→Option (Nat × Nat)) (ev:Operand→AV):List AV→List (Nat × Operand)→Option (List AV)
 | cs,[]=>some cs
 | cs,(i,x) :: r=>match places i with
  | some (off,n)=>if (ev x).solid&&(ev x).cells.length==n&&Nat.ble (off+n) cs.length then aC9 places ev (cs.take off++((ev x).cells++cs.drop (off+n))) r else .none
  | _=>.none
theorem aKl {places:Nat→Option (Nat × Nat)} (hp:∀ i,qZ P t i=places i):∀ (parts:List (Nat × Operand)) (cs us:List AV),aC9 places ev cs parts=some us→aE1 P t ev cs parts=some us
 | [],cs,us,h=>h
 | (i,x) :: r,cs,us,h=>by
  simp only [aC9] at h
  simp only [aE1,hp i]
  split at h
  ·
   rename_i off n hpl
   rw [hpl]
   simp only
   split at h
   ·
    rename_i hc
    simp only [aY,oB,Nat.ble_eq] at hc
    rw [aT ⟨hc.1.1,hc.1.2,hc.2⟩,dD]
    exact aKl hp r _ _ h
   ·
    cases h
  ·
   cases h
theorem fM {parts:Array (Nat × Operand)}{z:List Value}{places:Nat→Option (Nat × Nat)}{cs:List AV} (h6:kH P t=6∧aFI P t=true∧nE P t=some z∧∀ i,qZ P t i=places i) (hc:aC9 places ev (z.map AV.ofFlat) parts.toList=some cs):Pv P ⟨d,.build t parts,ty,pos,af,gd⟩ ev σ (.agg cs):=fun K h=>by
 (refine .inl ?_;simp only [eD,h6.2.2.1,aKl h6.2.2.2 _ _ _ hc])
 exact ⟨h6.1,h6.2.1,h⟩
theorem rH {places:Nat→Option (Nat × Nat)}{cs:List AV}:aC9 places ev cs []=some cs:=rfl
theorem iQ {places:Nat→Option (Nat × Nat)}{cs cs' us out:List AV}{i off n:Nat}{v:AV}{r:List (Nat × Operand)} (hp:places i=some (off,n)) (hv:ev x=v) (hs:v.solid=true) (hu:v.cells=us) (hl:(us.length==n&&Nat.ble (off+n) cs.length)=true) (hc:cs.take off++(us++cs.drop (off+n))=cs')
  (t:aC9 places ev cs' r=some out):aC9 places ev cs ((i,x) :: r)=some out:=by
 simp only [aC9,hp,hv,hs,hu,cL]
 rw [aT hl,hc]
 exact t
theorem rI {parts:Array (Nat × Operand)}{z:List Value}{places:Nat→Option (Nat × Nat)}{c0 cs:List AV} (h6:kH P t=6∧aFI P t=true∧nE P t=some z∧∀ i,qZ P t i=places i) (h0:z.map AV.ofFlat=c0) (hc:aC9 places ev c0 parts.toList=some cs):Pv P ⟨d,.build t parts,ty,pos,af,gd⟩ ev σ (.agg cs):=by
 subst h0;exact fM h6 hc
end
end Go.Proofs.YtnigjppddilpcaaGreatDoor.Abs
namespace Go.Proofs.YtnigjppddilpcaaGreatDoor.Abs
open Go
set_option linter.unusedVariables false
set_option linter.unusedSimpArgs false
variable {mo:Bool}
theorem aFm {a b:Nat} (h:Nat.blt a b=true):a<b:=by rw [Nat.blt_eq] at h;exact h
theorem aGJ {a b:Nat} (h:Nat.ble a b=true):a≤b:=by rw [Nat.ble_eq] at h;exact h
def leP:List AV→List AV→Prop
 | [],[]=>True
 | a :: as,b :: bs=>a.le b∧leP as bs
 | _,_=>False
theorem aDg:∀ {as bs:List AV},leP as bs→AV.leL as bs
 | [],[],_=>.nil
 | a :: as,b :: bs,h=>.cons h.1 (aDg h.2)
 | [],_ :: _,h=>h.elim
 | _ :: _,[],h=>h.elim
def leC:List AV→List PV→Prop
 | [],[]=>True
 | .c p :: as,q :: qs=>p=q∧leC as qs
 | .own _ sz xs :: as,q :: qs=>PV.list sz xs=q∧leC as qs
 | .nil :: as,q :: qs=>(∃ sz,q=.list sz [])∧leC as qs
 | _,_=>False
theorem aIH:∀ {as:List AV}{ps:List PV},leC as ps→AV.leL as (AV.cs ps)
 | [],[],_=>.nil
 | .c p :: as,q :: qs,h=>.cons (by simp only [leC] at h;rw [h.1];exact AV.le_refl _) (aIH (by simp only [leC] at h;exact h.2))
 | .own t sz xs :: as,q :: qs,h=>.cons (by simp only [leC] at h;rw [← h.1];exact AV.le_own_list _ _ _) (aIH (by simp only [leC] at h;exact h.2))
 | .nil :: as,q :: qs,h=>.cons (by simp only [leC] at h;obtain ⟨⟨sz,rfl⟩,_⟩:=h;exact AV.le_nil_list sz) (aIH (by simp only [leC] at h;exact h.2))
 | [],_ :: _,h=>by simp [leC] at h
 | .c _ :: _,[],h=>by simp [leC] at h
 | .own .. :: _,[],h=>by simp [leC] at h
 | .nil :: _,[],h=>by simp [leC] at h
 | .agg _ :: _,_,h=>by simp [leC] at h
 | .tup _ :: _,_,h=>by simp [leC] at h
 | .box .. :: _,_,h=>by simp [leC] at h
 | .eptr .. :: _,_,h=>by simp [leC] at h
 | .ptrs _ :: _,_,h=>by simp [leC] at h
 | .view .. :: _,_,h=>by simp [leC] at h
 | .mrow .. :: _,_,h=>by simp [leC] at h
 | .mptr .. :: _,_,h=>by simp [leC] at h
 | .pptr _ :: _,_,h=>by simp [leC] at h
 | .fn .. :: _,_,h=>by simp [leC] at h
 | .nilptr :: _,_,h=>by simp [leC] at h
 | .any :: _,_,h=>by simp [leC] at h
theorem cM {x:AV}{as:List AV}{ps:List PV} (hx:x=.agg as) (h:leC as ps):x.le (.agg (AV.cs ps)):=by subst hx;exact AV.le_agg (aIH h)
theorem aO7 {x:AV}{as bs:List AV} (hx:x=.agg as) (h:leP as bs):x.le (.agg bs):=by subst hx;exact AV.le_agg (aDg h)
theorem tL {x:AV}{as bs:List AV} (hx:x=.tup as) (h:leP as bs):x.le (.tup bs):=by subst hx;exact AV.le_tup (aDg h)
theorem aRn {x:AV}{f:FuncId}{as bs:List AV} (hx:x=.fn f as) (h:leP as bs):x.le (.fn f bs):=by
 subst hx
 intro g w v hv
 cases hv with
 | fn _ vs cs h1 h2 =>
  have:=fZ.le (aDg h) (show fZ g w vs as from ⟨h1,h2⟩)
  exact .fn f vs bs this.1 this.2
theorem aAh {α:Type}{sz:Nat}{row:α→List PV}:AV.nil.le (.c (PV.ls sz row [])):=AV.le_nil_list sz
theorem wK {α:Type}{t sz:Nat}{row:α→List PV} (h:Nat.blt 0 sz=true):AV.nil.le (.os t sz row []):=AV.le_nil_own t sz (aFm h)
theorem aC:leS [] []:=.nil
theorem fE {cs:List AV}{ps:List PV}{σ σ':St} (h:leC cs ps) (t:leS σ σ'):leS (cs :: σ) (AV.cs ps :: σ'):=.cons (aIH h) t
theorem qU {cs bs:List AV}{σ σ':St} (h:leP cs bs) (t:leS σ σ'):leS (cs :: σ) (bs :: σ'):=.cons (aDg h) t
section
variable {P:Program}{all r:List Oper}{d:Nat}{ty:TypeId}{pos:String}{af:Array Edge}{fr:Fr}{σ:St}{K:Fr→St→Prop}{v:AV}
theorem jV {e:TypeId}{z:List Value}{cs:List AV}{n:Nat}{σ':St} (hz:nE P e=some z) (hc:z.map AV.ofFlat=cs) (hn:σ.length=n) (hσ:σ++[cs]=σ') (h:mJ mo P all r ((d,.box n 0) :: fr) σ' K):mJ mo P all (⟨some d,.alloc e,ty,pos,af,none⟩ :: r) fr σ K:=by
 refine tF ?_
 refine wF rfl ?_
 subst hc hn hσ
 (refine .inl ?_;simp only [eD,hz])
 exact h
theorem kP {e:TypeId}{x:Operand}{cs:List AV}{n:Nat}{σ':St} (hx:fr.ev x=v) (hs:v.solid=true) (hc:v.cells=cs) (hn:σ.length=n) (hσ:σ++[cs]=σ') (h:mJ mo P all r ((d,.box n 0) :: fr) σ' K):mJ mo P all (⟨some d,.box e x,ty,pos,af,none⟩ :: r) fr σ K:=by
 refine tF ?_
 refine wF rfl ?_
 subst hx hc hn hσ
 (refine .inl ?_;simp only [eD])
 exact ⟨hs,h⟩
theorem cN {dst:Option Tmp}{t:TypeId}{x y:Operand}{ag:Bool}{n id off:Nat}{cs us:List AV}{σ':St} (hd:dst=none) (ht:lM P t=some (ag,n)) (hx:fr.ev x=.box id off) (hy:fr.ev y=v) (hs:v.solid=true) (hu:v.cells=us) (hn:us.length=n) (hc:σ[id]?=some cs) (hle:Nat.ble (off+n) cs.length=true)
  (hσ:σ.set id (cs.take off++(us++cs.drop (off+n)))=σ') (h:mJ mo P all r fr σ' K):mJ mo P all (⟨dst,.store t x y,ty,pos,af,none⟩ :: r) fr σ K:=by
 subst hd
 refine tF ?_
 refine wF rfl ?_
 subst hy hu
 (refine .inl ?_;simp only [eD,ht,hx,hc])
 refine ⟨hs,hn,aGJ hle,?_⟩
 rw [dD,hσ]
 exact h
theorem uU {α:Type}{t e:TypeId}{len sz by_:Nat}{parts:Array (Nat × Operand)}{rows:List (List PV)}{row:α→List PV}{xs:List α}{σ':St} (hs:List Nat) (ht:mK P t=some (e,sz,by_)) (hl:parts.toList.length=len) (hm:Nat.ble (len*sz) 1000000=true) (hr:aBw hs sz fr.ev 0 parts.toList=some rows) (hx:rows=xs.map row)
  (hf:fr.dem (sX (some d))=fr) (hσ:σ.dem (sX (some d))=σ') (h:mJ mo P all r ((d,.os (16*d) sz row xs) :: fr) σ' K):mJ mo P all (⟨some d,.buildSlice t len parts,ty,pos,af,none⟩ :: r) fr σ K:=by
 refine tF ?_
 refine wF rfl ?_
 subst hσ hx
 (refine .inl ?_;simp only [eD,ht])
 refine ⟨hl,aGJ hm,hs,?_⟩
 simp only [hr,Fr.demo,hf]
 exact h
theorem aOi {t e:TypeId}{len by_:Nat}{parts:Array (Nat × Operand)}{l:List (Nat × Nat)} (ht:mK P t=some (e,1,by_)) (hl:parts.toList.length=len) (hm:Nat.ble (len*1) 1000000=true) (h0:aBw [] 1 fr.ev 0 parts.toList=none) (hr:aF0 fr.ev 0 parts.toList=some l)
  (h:mJ mo P all r ((d,.ptrs l) :: fr) σ K):mJ mo P all (⟨some d,.buildSlice t len parts,ty,pos,af,none⟩ :: r) fr σ K:=by
 refine tF ?_
 refine wF rfl ?_
 (refine .inl ?_;simp only [eD,ht])
 refine ⟨hl,aGJ hm,[],?_⟩
 simp only [h0,hr]
 exact ⟨trivial,h⟩
def aIt (d t0:Nat):Nat→Bool:=fun t=>sX (some d) t||t==t0
theorem aR9 {α:Type}{o:Oper}{t tx e:TypeId}{sz by_:Nat}{s x:AV}{row:α→List PV}{xs ys:List α}{f:Nat→Bool}{K:Option (Nat→Bool)→AV→St→Prop} (ht:mK P t=some (e,sz,by_)) (hb:Nat.blt 0 by_=true) (htx:kH P tx=3)
  (hs:(s=.nil∧xs=[]∧f=sX o.dst)∨∃ t0,s=.os t0 sz row xs∧f=fun t=>sX o.dst t||t==t0) (hx:isl x sz row ys∨(x=.nil∧ys=[])) (hy:∀ u,(row u).length=sz) (hm:(xs.length+ys.length)*by_≤140737488355328)
  (h:K (some f) (.os (rW o.dst) sz row (xs++ys)) (σ.dem f)):wQ P o t tx s x σ K:=by
 have hrow:∀ y∈ys.map row,y.length=sz:=by simp [hy]
 have hb':=aFm hb
 have e1:AV.os (rW o.dst) sz row (xs++ys)=.own (rW o.dst) sz (xs.map row++ys.map row):=by simp [AV.os]
 rw [e1] at h
 rcases hs with ⟨rfl,rfl,rfl⟩ | ⟨t0,rfl,rfl⟩
 ·
  rcases hx with (rfl | ⟨t1,rfl⟩) | ⟨rfl,rfl⟩
  ·
   simp only [wQ,ht,PV.ls];exact ⟨hb',trivial,htx,hrow,by simpa using hm,h⟩
  ·
   simp only [wQ,ht,AV.os];exact ⟨hb',trivial,htx,hrow,by simpa using hm,h⟩
  ·
   simp only [wQ,ht];exact ⟨hb',htx,by simp,h⟩
 ·
  rcases hx with (rfl | ⟨t1,rfl⟩) | ⟨rfl,rfl⟩
  ·
   simp only [wQ,ht,PV.ls,AV.os];exact ⟨hb',trivial,trivial,htx,hrow,by simpa using hm,h⟩
  ·
   simp only [wQ,ht,AV.os];exact ⟨hb',trivial,trivial,htx,hrow,by simpa using hm,h⟩
  ·
   simp only [wQ,ht,AV.os];exact ⟨hb',trivial,htx,by simpa using hm,by simpa using h⟩
theorem aCn {α:Type}{s x:Operand}{t tx e:TypeId}{sz by_ t0:Nat}{row:α→List PV}{xs ys zs:List α} (ht:mK P t=some (e,sz,by_)) (hb:Nat.blt 0 by_=true) (htx:kH P tx=3) (hs:fr.ev s=.os t0 sz row xs) (hx:isl (fr.ev x) sz row ys) (hy:∀ u,(row u).length=sz) (hz:app by_ xs ys=some zs)
  (h:mJ mo P all r ((d,.os (16*d) sz row zs) :: fr.dem (aIt d t0)) (σ.dem (aIt d t0)) K):mJ mo P all (⟨some d,.call { callee:=.builtin .append,args:=#[s,x],argTypes:=#[t,tx] },ty,pos,af,none⟩ :: r) fr σ K:=by
 obtain ⟨hm,rfl⟩:=aBO hz
 refine tF ?_
 refine wF rfl ?_
 (refine .inl ?_;simp only [eD])
 exact aR9 ht hb htx (.inr ⟨t0,hs,rfl⟩) (.inl hx) hy hm h
theorem aUp {s x:Operand}{t tx e:TypeId}{by_ t0:Nat}{xs ys zs:List UInt8} (ht:mK P t=some (e,1,by_)) (hb:Nat.blt 0 by_=true) (htx:kH P tx=2) (hs:fr.ev s=.os t0 1 gW xs) (hx:fr.ev x=.c (.str ys)) (hz:app by_ xs ys=some zs)
  (h:mJ mo P all r ((d,.os (16*d) 1 gW zs) :: fr.dem (aIt d t0)) (σ.dem (aIt d t0)) K):mJ mo P all (⟨some d,.call { callee:=.builtin .append,args:=#[s,x],argTypes:=#[t,tx] },ty,pos,af,none⟩ :: r) fr σ K:=by
 obtain ⟨hm,rfl⟩:=aBO hz
 refine tF ?_
 refine wF rfl ?_
 have e1:AV.os (rW (some d)) 1 gW (xs++ys)=.own (rW (some d)) 1 (xs.map gW++ys.map gW):=by simp [AV.os]
 have h':mJ mo P all r ((d,AV.os (rW (some d)) 1 gW (xs++ys)) :: fr.dem (aIt d t0)) (σ.dem (aIt d t0)) K:=h
 rw [e1] at h'
 (refine .inl ?_;simp only [eD,wQ,ht,hs,hx,AV.os])
 exact ⟨aFm hb,trivial,trivial,htx,by simpa using hm,h'⟩
theorem dP {fo:Operand}{args:Array Operand}{ts:Array TypeId}{f:FuncId}{caps as:List AV}{σc σr σ':St}{rv:AV} (ids:List Nat) (hf:fr.ev fo=.fn f caps) (hc:cX P f as σc rv σr) (hnd:decide ids.Nodup=true) (hlt:(ids.all fun i=>Nat.blt i σ.length)=true)
  (ha:leP (AV.lowL ids (args.toList.map fr.ev++caps)) as) (hs:leS (σ.sub ids) σc) (hfr:(fr.dem fun t=>t / 16==d)=fr) (hv:rv.lift ids σ.length d=v) (hσ:σ.after ids d σr=σ') (h:mJ mo P all r ((d,v) :: fr) σ' K) :
  mJ mo P all (⟨some d,.call { callee:=.value fo,args:=args,argTypes:=ts },ty,pos,af,none⟩ :: r) fr σ K:=by
 refine tF ?_
 unfold aop
 simp only [hf,aHd]
 refine ⟨d,ids,[],as,σc,rv,σr,fN hnd,.nil,fun i hi=>aFm (cI.1 hlt i hi),aDg ha,hs,hc,?_⟩
 simp only [eK,aIw,hfr,hv,hσ]
 exact h
theorem aCo {fo:Operand}{args:Array Operand}{ts:Array TypeId}{f:FuncId}{caps as:List AV}{σc σr σ':St}{rv:AV}{fr1:Fr} (k:Nat) (ids lt:List Nat) (hf:fr.ev fo=.fn f caps) (hc:cX P f as σc rv σr) (hnd:decide ids.Nodup=true) (hltn:decide lt.Nodup=true) (hlt:(ids.all fun i=>Nat.blt i σ.length)=true)
  (ha:leP (AV.lowTL lt ids (args.toList.map fr.ev++caps)) as) (hs:leS (σ.sub ids lt) σc) (hfr:(fr.dem (aEX lt k))=fr1) (hv:rv.lift ids σ.length k=v) (hσ:σ.after ids k σr lt=σ') (h:mJ mo P all r ((d,v) :: fr1) σ' K) :
  mJ mo P all (⟨some d,.call { callee:=.value fo,args:=args,argTypes:=ts },ty,pos,af,none⟩ :: r) fr σ K:=by
 refine tF ?_
 unfold aop
 simp only [hf,aHd]
 refine ⟨k,ids,lt,as,σc,rv,σr,fN hnd,fN hltn,fun i hi=>aFm (cI.1 hlt i hi),aDg ha,hs,hc,?_⟩
 simp only [eK,hfr,hv,hσ]
 exact h
theorem aAZ {dst:Option Tmp}{gd:Option (Nat × Bool)}{fo:Operand}{args:Array Operand}{ts:Array TypeId}{f:FuncId}{caps as:List AV}{rv:AV} (hf:fr.ev fo=.fn f caps) (hc:cX P f as [] rv []) (ha:leP (AV.lowL [] (args.toList.map fr.ev++caps)) as) (hv:rv.low []=v) :
  Qv P ⟨dst,.call { callee:=.value fo,args:=args,argTypes:=ts },ty,pos,af,gd⟩ fr σ v:=fun K hk=>by
 unfold aPH
 simp only [hf]
 exact ⟨as,rv,aDg ha,hc,by rw [hv];exact hk⟩
end
section
variable {P:Program}{V:List Nat}{k0:Nat}{Q:Exit→Fr→St→Prop}{fr:Fr}{σ:St}{K:Fr→St→Prop}
theorem dQ {all:List Oper}{fr':Fr} (hp:prune V fr=fr') (h:Q .normal fr' σ):mJ mo P all [] fr σ fun fr σ=>hold (Q .normal (prune V fr) σ):=by
 subst hp;exact h
theorem mC (h:K fr σ):aD3 K Q .normal fr σ:=h
theorem aN (h:Q .ret fr σ):aD3 K Q .ret fr σ:=h
theorem cZ {id:Nat} (h:Q (.exit id) fr σ):aD3 K Q (.exit id) fr σ:=h
theorem dI {id:Nat} (h:Q .normal fr σ):aL7 id Q .normal fr σ:=h
theorem bT {id:Nat} (h:Q .ret fr σ):aL7 id Q .ret fr σ:=h
theorem fT {id:Nat} (h:Q .normal fr σ):aL7 id Q (.exit id) fr σ:=by simp only [aL7,bQ];exact h
theorem aSN {id id':Nat} (hne:Nat.beq id' id=false) (h:Q (.exit id') fr σ):aL7 id Q (.exit id') fr σ:=by
 have:¬id'=id:=Nat.ne_of_beq_eq_false hne
 simp only [aL7,this,cD];exact h
theorem kI {c:Operand}{x y:Code} (h:fr.ev c=.c (.bool true)) (h1:yH P V k0 x Q fr σ):yH P V k0 (.cond c x y) Q fr σ:=aLF true h (fun _=>h1) (fun e=>by cases e)
theorem aAI {c:Operand}{x y:Code} (h:fr.ev c=.c (.bool false)) (h1:yH P V k0 y Q fr σ):yH P V k0 (.cond c x y) Q fr σ:=aLF false h (fun e=>by cases e) (fun _=>h1)
theorem kF {x y:Code}{J:Type} (C:J→Prop) (F:J→Fr) (G:J→St) (h:yH P V k0 x (aD3 (fun fr σ=>∃ j,C j∧qJ k0 fr σ (F j) (G j)) Q) fr σ) (h2:∀ j,C j→yH P V k0 y Q (F j) (G j)):yH P V k0 (.seq x y) Q fr σ :=
 aWb (fun fr σ=>∃ j,C j∧fr=F j∧σ=G j) (aCI x (fun e fr σ he=>by
  cases e with
  | normal=>obtain ⟨j,h1,h2⟩:=he;exact ⟨F j,G j,h2,j,h1,rfl,rfl⟩
  | _=>exact he) h) (fun fr σ he=>by obtain ⟨j,hj,rfl,rfl⟩:=he;exact h2 j hj)
theorem gY {c:Code}{S R:Type} (body:S→Option (dN S R)) (F:S→Fr) (G:S→St) {s0:S}{r:R} (h0:fI body s0=some r) (hw:qJ k0 fr σ (F s0) (G s0))
  (h:∀ s st,body s=some st→(∀ r',st=.out r'→r'=r)→yH P V k0 c (aD3 (fun fr σ=>∃ s',st=.next s'∧qJ k0 fr σ (F s') (G s')) Q) (F s) (G s)):yH P V k0 (.loop c) Q fr σ:=by
 obtain ⟨n,hn⟩:=aBY h0
 refine aUW (fun m fr σ=>∃ s,aBy body m s=some r∧fr=F s∧σ=G s) n hw ⟨s0,hn,rfl,rfl⟩ ?_
 rintro m fr σ ⟨s,hs,rfl,rfl⟩
 cases m with
 | zero=>cases hs
 | succ m =>
  simp only [aBy] at hs
  obtain ⟨st,h1,h2⟩:=eF hs
  refine aCI c (fun e fr σ he=>?_) (h s st h1 (fun r' e=>by subst e;cases h2;rfl))
  cases e with
  | normal=>obtain ⟨s',rfl,hw⟩:=he;exact ⟨m,F s',G s',by omega,hw,s',h2,rfl,rfl⟩
  | _=>exact he
theorem bJ (toks:List Nat) (m:Nat) {fr':Fr}{σ':St} (hnd:decide toks.Nodup=true) (hm:Nat.ble k0 m=true) (hf:fr'.inB m=true) (hb:St.inB m ((σ.retok toks).take m)=true) (h:Fr.below (fr.retok toks) fr') (hs:leS ((σ.retok toks).take m) σ'):qJ k0 fr σ fr' σ' :=
 aLN toks (fN hnd) m h (aGJ hm) hf hs hb
theorem bM {A:List AV→Prop} (h:A []):pK P fr σ [] A:=h
theorem cE {t:Nat}{v:AV}{rs:List ResultVar}{A:List AV→Prop} (hv:fr.get t=v) (h:pK P fr σ rs fun vs=>A (v :: vs)):pK P fr σ (.tmp t :: rs) A:=by
 simp only [pK,hv];exact h
theorem eX {a id off n:Nat}{t:TypeId}{cs us:List AV}{rs:List ResultVar}{A:List AV→Prop} (ht:lM P t=some (true,n)) (ha:fr.get a=.box id off) (hs:σ[id]?=some cs) (hn:Nat.ble (off+n) cs.length=true) (hc:(cs.drop off).take n=us) (h:pK P fr σ rs fun vs=>A (.agg us :: vs)):pK P fr σ (.cell a t :: rs) A:=by
 simp only [pK,ht,ha,aA8,hs];subst hc;exact ⟨aGJ hn,h⟩
theorem bN {rs rs':List ResultVar}{r:AV}{σr:St} (hrs:rs=rs') (h:pK P fr σ rs' fun vs=>Fin k0 (aM7 vs) σ r σr):aUh P rs k0 r σr .ret fr σ:=by subst hrs;exact h
theorem aIu {rs rs':List ResultVar}{r:AV}{σr:St} (hrs:rs=rs') (h:pK P fr σ rs' fun vs=>Fin k0 (aM7 vs) σ r σr):aUh P rs k0 r σr .normal fr σ:=by subst hrs;exact h
theorem aP {rv r:AV}{σr:St} (toks:List Nat) (hnd:decide toks.Nodup=true) (hin:(rv.retok toks).inB k0=true) (hb:St.inB k0 (St.dem aBN (σ.take k0))=true) (hr:(rv.retok toks).le r) (hσ:leS (St.dem aBN (σ.take k0)) σr):Fin k0 rv σ r σr :=
 aRb toks (fN hnd) hin (aO5 rfl hb) hr hσ
theorem aO6 {rv r:AV}{σr:St} (toks:List Nat) (hnd:decide toks.Nodup=true) (hin:rv.inB k0=true) (hb:St.inB k0 (σ.take k0)=true) (hr:(rv.retok toks).le r) (hσ:leS (St.retok toks (σ.take k0)) σr):Fin k0 rv σ r σr:=by
 intro c g w v hk hi hv
 have hf:yF g w #[v] [(0,rv)]:=fun d=>by
  simp only [Fr.get]
  split
  ·
   rename_i e;subst e;exact hv
  ·
   exact .any
 have w1:qJ k0 [(0,rv)] σ [(0,rv)] (σ.take k0):=qJ.take (fB _) (fun d=>by
  simp only [Fr.get]
  split
  ·
   exact hin
  ·
   rfl) (fun i cs hi hcs=>St.inB_get hb i cs (by rw [eO hi];exact hcs))
 obtain ⟨g1,hi1,hf1⟩:=w1 c g w #[v] hk hi hf
 obtain ⟨g2,hi2,hf2⟩:=qJ.retok (k0:=k0) (fr:=[(0,rv)]) (σ:=σ.take k0) toks (fN hnd) c g1 w #[v] hk hi1 hf1
 obtain ⟨g3,hi3,hf3⟩:=qJ.cells (k0:=k0) (fr:=Fr.retok toks [(0,rv)]) hσ c g2 w #[v] hk hi2 hf2
 exact ⟨g3,hi3,hr _ _ _ (hf3 0)⟩
theorem aO4 {j off:Nat}{cs0:List AV}{rv:AV}{σr:St} (hv:rv=.box j off) (hj:Nat.ble k0 j=true) (hcs:σ[j]?=some cs0) (hcin:AV.inB.inBL k0 (AV.demL aBN cs0)=true) (hb:St.inB k0 (St.dem aBN (σ.take k0))=true) (hσ:leS (St.dem aBN (σ.take k0)++[AV.demL aBN cs0]) σr):Fin k0 rv σ (.box k0 off) σr:=by
 subst hv
 exact aSR (aGJ hj) hcs hcin (aO5 rfl hb) hσ
end
theorem gI {τ κ:Type}{t y:τ}{x:Fl τ κ}{f:κ→Option τ} (h:some (Fl.done t)=some x) (h2:x.next f=some y):some t=some y:=by cases h;exact h2
theorem nY {τ κ:Type}{j:κ}{y:τ}{x:Fl τ κ}{f:κ→Option τ} (h:x=Fl.go j) (h2:x.next f=some y):f j=some y:=by subst h;exact h2
theorem eS {σ ρ:Type}{r r':ρ}{st:dN σ ρ} (h:some (dN.out r')=some st) (h2:∀ r',st=.out r'→r'=r):some r'=some r:=by
 rw [h2 r' (eU h).symm]

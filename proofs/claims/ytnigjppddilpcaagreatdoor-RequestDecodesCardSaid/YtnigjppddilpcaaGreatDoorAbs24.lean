/- Tokens renamed: what a loop needs whose slices grow. From a law's data to plain values. A law's row: its arguments, and what is left behind. The printed walks' steps: each operation's rule, its outcome told in typed lists. The printed walks' steps: operations that grow memory, calls, ways that meet, loops, hand-backs. -/
import Derived.Test.YtnigjppddilpcaaGreatDoorAbs19
import Derived.ChangeShapes
import Derived.ChangeSlices
import Derived.ChangeArms
import Derived.ChangeOld
import Derived.DataReads
import Derived.WideShapes
import Derived.Below
import Derived.Test.YtnigjppddilpcaaGreatDoorPk1
namespace Go.Proofs.YtnigjppddilpcaaGreatDoor.Abs
open Go
set_option linter.unusedVariables false
set_option linter.unusedSimpArgs false
variable {mo:Bool}
def Fr.retok (toks:List Nat):Fr→Fr
 | []=>[]
 | (i,a) :: r=>(i,a.retok toks) :: Fr.retok toks r
def St.retok (toks:List Nat):St→St
 | []=>[]
 | cs :: r=>AV.retokL toks cs :: St.retok toks r
theorem St.retok_eq (toks:List Nat) (σ:St):σ.retok toks=σ.map (AV.retokL toks):=by
 induction σ with
 | nil=>rfl
 | cons a l ih=>simp [St.retok,ih]
theorem Fr.get_retok (toks:List Nat) (fr:Fr) (d:Nat):(fr.retok toks).get d=(fr.get d).retok toks:=by
 induction fr with
 | nil=>rfl
 | cons x r ih =>
  obtain ⟨i,a⟩:=x
  simp only [Fr.retok,Fr.get]
  split
  ·
   rfl
  ·
   exact ih
theorem rG.retok {k0:Nat}{fr:Fr}{σ:St} (toks:List Nat) (hnd:toks.Nodup):rG k0 fr σ (fr.retok toks) (σ.retok toks):=by
 intro c g w tmps hk hi hf
 refine ⟨⟨g.I,g.β,fun j=>(toks[j]?).bind g.τ⟩,⟨hi.os,hi.tape,hi.output,hi.size,hi.old,hi.Ile,hi.Iold,hi.Ilt,hi.βpre,hi.βnew,hi.βnd,?_,hi.βI,hi.βlt,fun t b ht=>?_,fun t t' b h1 h2=>?_,fun id cs b hs' hb=>?_,hi.cell0,hi.glo⟩,fun d=>?_⟩
 ·
  rw [St.retok_eq,iI];exact hi.βlen
 ·
  change (toks[t]?).bind g.τ=some b at ht
  cases htt:toks[t]? with
  | none=>simp [htt] at ht
  | some s =>
   simp only [htt,aA] at ht
   exact hi.τnew s b ht
 ·
  change (toks[t]?).bind g.τ=some b at h1
  change (toks[t']?).bind g.τ=some b at h2
  cases e1:toks[t]? with
  | none=>simp [e1] at h1
  | some s =>
   cases e2:toks[t']? with
   | none=>simp [e2] at h2
   | some s' =>
    simp only [e1,e2,aA] at h1 h2
    have:=hi.τinj s s' b h1 h2
    subst this
    exact uJ hnd e1 e2
 ·
  rw [St.retok_eq,cJ,cM] at hs'
  obtain ⟨cs0,hcs0,rfl⟩:=hs'
  obtain ⟨cur,e,hh,hc⟩:=hi.store id cs0 b hcs0 hb
  refine ⟨cur,e,hh,by simpa [AV.retokL_eq] using hc.1,fun i v a hv ha=>?_⟩
  simp only [AV.retokL_eq,cJ,cM] at ha
  obtain ⟨a,ha,rfl⟩:=ha
  exact (hc.2 i v a hv ha).retok toks
 ·
  rw [Fr.get_retok];exact (hf d).retok toks
theorem aLS {k0:Nat} (toks:List Nat) (hnd:toks.Nodup) (m:Nat) {fr fr':Fr}{σ σ':St} (h:Fr.below (fr.retok toks) fr') (hm:k0≤m) (hf:fr'.inB m=true) (hs:leS ((σ.retok toks).take m) σ') (hb:St.inB m ((σ.retok toks).take m)=true):rG k0 fr σ fr' σ' :=
 (rG.retok toks hnd).trans (aRF m h hm hf hs hb)
section
variable {P:Program}{ops r:List Oper}{d:Option Tmp}{op:Op}{ty:TypeId}{pos:String}{af:Array Edge}{j:Nat}{fr:Fr}{σ:St}{K:Fr→St→Prop}{Kq:Fr→Prop}
theorem vB (h:aop P ⟨d,op,ty,pos,af,none⟩ fr σ fun fr σ=>mO mo P ops r fr σ K):mO mo P ops (⟨d,op,ty,pos,af,none⟩ :: r) fr σ K:=aKZ h
end
end Go.Proofs.YtnigjppddilpcaaGreatDoor.Abs
namespace Go.Proofs.YtnigjppddilpcaaGreatDoor.Abs
open Go
set_option linter.unusedVariables false
set_option linter.unusedSimpArgs false
def aKT (S:TypeId→List PV→Prop):List TypeId→List PV→Prop
 | [],ps=>ps=[]
 | t :: ts,ps=>∃ p q,ps=p++q∧S t p∧aKT S ts q
def uH (P:Program):Nat→TypeId→List PV→Prop
 | 0,_,_=>False
 | n+1,t,ps=>match P.underlying t with
  | some .bool=>∃ b,ps=[.bool b]
  | some (.int k)=>∃ x,ps=[.int k x]∧(Lit.int k x).wf=true
  | some .string=>∃ s:List UInt8,ps=[.str s]∧s.length≤140737488351232
  | some (.slice e)=>∃ xs,ps=[.list (P.cellsOf e) xs]∧(∀ x∈xs,uH P n e x)∧xs.length≤9223372036854775807∧xs.length*P.bytesOf e≤140737488351232
  | some (.struct fs)=>aKT (uH P n) (fs.toList.map (·.type)) ps
  | _=>False
def aJw (P:Program):Nat→List Field→Option Nat
 | o,[]=>some o
 | o,f :: r=>if f.offset=o then aJw P (o+P.cellsOf f.type) r else none
def aLk (P:Program) (L:List TypeId):Bool:=L.all fun t=>match P.underlying t with
 | some .bool=>true
 | some (.int _)=>true
 | some .string=>true
 | some (.slice e)=>L.contains e&&decide (0<P.cellsOf e)
 | some (.struct fs)=>fs.toList.all (fun f=>L.contains f.type)&&aJw P 0 fs.toList==some (P.cellsOf t)
 | _=>false
def old (W:World):Nat→Nat→Prop:=fun b _=>b<W.heap.size
def RVs (W:World) (cs:List Value) (ps:List PV):Prop:=ps.length=cs.length∧∀ (i:Nat) v p,cs[i]?=some v→ps[i]?=some p→RV (old W) W v p
theorem RVs.one {W:World}{v:Value}{p:PV} (h:RV (old W) W v p):RVs W [v] [p]:=⟨rfl,fun i v' p' h1 h2=>by cases i with
 | zero=>simp at h1 h2;subst h1;subst h2;exact h
 | succ i=>simp at h1⟩
theorem RVs.app {W:World}{cs cs':List Value}{ps ps':List PV} (h:RVs W cs ps) (h':RVs W cs' ps'):RVs W (cs++cs') (ps++ps'):=by
 refine ⟨by simp [h.1,h'.1],fun i v p h1 h2=>?_⟩
 by_cases hi:i<cs.length
 ·
  rw [dD hi] at h1
  rw [dD (by rw [h.1];exact hi)] at h2
  exact h.2 i v p h1 h2
 ·
  rw [eB (by omega)] at h1
  rw [eB (by rw [h.1];omega),h.1] at h2
  exact h'.2 _ v p h1 h2
theorem aHU {α:Type}{R:Nat→α→Prop}:∀ (n:Nat),(∀ i,i<n→∃ x,R i x)→∃ xs:List α,xs.length=n∧∀ (i:Nat) x,xs[i]?=some x→R i x
 | 0,_=>⟨[],rfl,fun i x h=>by simp at h⟩
 | n+1,h=>by
  obtain ⟨xs,hl,hx⟩:=aHU n (fun i hi=>h i (by omega))
  obtain ⟨y,hy⟩:=h n (by omega)
  refine ⟨xs++[y],by simp [hl],fun i x hi=>?_⟩
  by_cases hin:i<n
  ·
   rw [dD (by omega)] at hi
   exact hx i x hi
  ·
   rw [eB (by omega)] at hi
   have:i=n:=by
    have:=(cD.1 hi).1
    simp at this;omega
   subst this
   simp [hl] at hi
   subst hi
   exact hy
theorem aE9 (b o n:Nat):(⟨b,o,none⟩:Addr).add n=⟨b,o+n,none⟩:=by
 unfold Addr.add
 split
 ·
  rename_i h;subst h;rfl
 ·
  rfl
theorem aPq {W:World}{a:Addr}{u:Value} (h:W.cell? a=some u):a.spot=none∧a.block<W.heap.size:=by
 unfold World.cell? at h
 split at h
 ·
  rename_i c e y hb
  split at h
  ·
   cases h
  ·
   rename_i hs
   exact ⟨by simpa using hs,(kS.1 hb).1⟩
 ·
  cases h
theorem aM8 {P:Program}{W:World}{cs:List Value}{S:TypeId→List PV→Prop}:∀ (l:List Field) (o:Nat),aJw P o l=some cs.length →
  (∀ f∈l,∃ ps,RVs W ((cs.drop f.offset).take (P.cellsOf f.type)) ps∧S f.type ps)→∃ ps,RVs W (cs.drop o) ps∧aKT S (l.map (·.type)) ps
 | [],o,h,_=>by
  simp only [aJw,eM] at h
  subst h
  exact ⟨[],⟨by simp,fun i v p h1=>by simp at h1⟩,rfl⟩
 | f :: r,o,h,hf=>by
  simp only [aJw] at h
  split at h
  ·
   rename_i ho
   obtain ⟨ps,h1,h2⟩:=hf f (by simp)
   obtain ⟨qs,h3,h4⟩:=aM8 r _ h (fun f' hf'=>hf f' (by simp [hf']))
   refine ⟨ps++qs,?_,ps,qs,rfl,h2,h4⟩
   have:=h1.app h3
   rw [ho,← rH,List.take_append_drop] at this
   exact this
  ·
   cases h
theorem aH4 {H:Type}{P:Program}{e:TypeId}{y:Nat}:∀ {l:List (DataW H)}{d:DataW H},d∈l→y∈d.weights P e→y∈DataW.weightsAll P e l
 | [],d,h,_=>by simp at h
 | d' :: r,d,h,hy=>by
  simp only [DataW.weightsAll,fH]
  rcases fW.1 h with rfl | h
  ·
   exact .inl hy
  ·
   exact .inr (aH4 h hy)
theorem aEa {H:Type}{P:Program}{y:Nat}:∀ {ts:List TypeId}{ds:List (DataW H)}{i:Nat}{t:TypeId}{d:DataW H},ts[i]?=some t→ds[i]?=some d→y∈d.weights P t→y∈DataW.weightsEach P ts ds
 | [],ds,i,t,d,h,_,_=>by simp at h
 | t' :: ts,[],i,t,d,_,h,_=>by simp at h
 | t' :: ts,d' :: ds,0,t,d,h1,h2,hy=>by
  simp only [List.getElem?_cons_zero,eM] at h1 h2
  subst h1 h2
  simp only [DataW.weightsEach,fH]
  exact .inl hy
 | t' :: ts,d' :: ds,i+1,t,d,h1,h2,hy=>by
  simp only [pA] at h1 h2
  simp only [DataW.weightsEach,fH]
  exact .inr (aEa h1 h2 hy)
theorem aOs {H:Type}{P:Program}{ts:List TypeId}{ds:List (DataW H)} (h:(DataW.weightsEach P ts ds).all (·≤reachBytes)=true) (i:Nat) {t:TypeId}{d:DataW H} (h1:ts[i]?=some t) (h2:ds[i]?=some d) :
  ∀ y∈d.weights P t,y≤140737488351232:=fun y hy=>by
 have:=cR.1 h y (aEa h1 h2 hy)
 simp only [dT] at this
 exact this
theorem aSG {H:Type}{enc:TypeId × Value→H}{P:Program}{W:World}{spare:Nat→Bool}{held:Bool}{L:List TypeId} (hL:aLk P L=true):∀ (fuel:Nat) (t:TypeId) (cs:List Value) (x:DataW H × List MemPlace),t∈L →
  DataW.trod enc P W 0 spare held fuel t cs=some x→(∀ y∈x.1.weights P t,y≤140737488351232)→∃ ps,RVs W cs ps∧uH P fuel t ps:=by
 intro fuel
 induction fuel with
 | zero=>intro t cs x _ h;simp [DataW.trod] at h
 | succ n ih =>
  intro t cs x ht h hwt
  have hp:=cR.1 hL t ht
  split at hp
  ·
   rename_i hu
   obtain ⟨b,rfl,_⟩:=DataW.trod_bool hu h
   exact ⟨[.bool b],.one (.bool b),by simp [uH,hu]⟩
  ·
   rename_i k hu
   obtain ⟨m,rfl,_,hw⟩:=DataW.trod_int hu h
   exact ⟨[.int k m],.one (.int k m),by simp [uH,hu,hw]⟩
  ·
   rename_i hu
   obtain ⟨s,rfl,rfl,hs⟩:=DataW.trod_string hu h
   have hs2:=hwt s.data.toList.length (by simp [DataW.weights])
   refine ⟨[.str s.data.toList],.one ?_,?_⟩
   ·
    have:=RV.str (I:=old W) (w:=W) s.data.toList
    simpa using this
   ·
    simp only [uH,hu]
    exact ⟨_,rfl,hs2⟩
  ·
   rename_i e hu
   simp only [bZ,dT,jU] at hp
   rcases DataW.trod_slice hu h with ⟨rfl,_⟩ | ⟨a,len,cap,elems,rest,m,hm,rfl,rfl,_,hlc,hcm,hel,hget,_⟩
   ·
    refine ⟨[.list (P.cellsOf e) []],.one (.empty _ _ _),?_⟩
    simp only [uH,hu]
    exact ⟨[],rfl,by simp,by simp,by simp⟩
   ·
    obtain rfl:n=m:=by omega
    have hwt2:∀ y∈(elems.length+rest.length)*P.bytesOf e :: (DataW.weightsAll P e (elems.map (·.1))++DataW.weightsAll P e (rest.map (·.1))),y≤140737488351232:=fun y hy=>hwt y (by
     have:DataW.weights P t (DataW.slice (elems.map (·.1)) (rest.map (·.1)))=(elems.length+rest.length)*P.bytesOf e :: (DataW.weightsAll P e (elems.map (·.1))++DataW.weightsAll P e (rest.map (·.1))):=by simp [DataW.weights,hu]
     simp only [this]
     exact hy)
    have hbytes:=hwt2 _ (List.mem_cons_self ..)
    have key:∀ i,i<len→∃ ps,(∃ csi,W.cells? 0 (a.add (i*P.cellsOf e)) (P.cellsOf e)=some csi∧RVs W csi ps)∧uH P n e ps:=by
     intro i hi
     have hg:=hget i hi
     rw [aT (by omega),pB] at hg
     obtain ⟨csi,h1,h2⟩:=hg
     obtain ⟨ps,h3,h4⟩:=ih e csi _ hp.1 h2 (fun y hy=>hwt2 y (jJ _ (fH.2 (.inl (aH4 (List.mem_map_of_mem (dB _)) hy)))))
     exact ⟨ps,⟨csi,h1,h3⟩,h4⟩
    obtain ⟨xs,hxl,hx⟩:=aHU len key
    have hsh:∀ x∈xs,uH P n e x:=fun x hxm=>by
     obtain ⟨i,hi⟩:=kB hxm
     exact (hx i x hi).2
    have hsz:∀ (i:Nat) x,xs[i]?=some x→x.length=P.cellsOf e∧∀ j,j<P.cellsOf e→∃ u p,W.cell? ((a.add (i*P.cellsOf e)).add j)=some u∧x[j]?=some p∧RV (old W) W u p:=by
     intro i x hi
     obtain ⟨⟨csi,h1,h2⟩,_⟩:=hx i x hi
     obtain ⟨hb,hlen,hcell⟩:=World.cells?_some h1
     refine ⟨h2.1.trans hlen,fun j hj=>?_⟩
     have hjc:j<csi.length:=by omega
     have hjx:j<x.length:=by rw [h2.1];exact hjc
     refine ⟨csi[j],x[j],?_,aT hjx,h2.2 j _ _ (aT hjc) (aT hjx)⟩
     have:=hcell j hj
     rw [aT hjc] at this
     exact this
    refine ⟨[.list (P.cellsOf e) xs],.one ?_,?_⟩
    ·
     by_cases h0:len=0
     ·
      subst h0
      obtain rfl:xs=[]:=eS hxl
      exact .empty _ _ _
     ·
      have hspot:a.spot=none∧a.block<W.heap.size:=by
       have h00:xs[0]?=some xs[0]:=aT (by omega)
       obtain ⟨u,p,h1,_⟩:=(hsz 0 _ h00).2 0 hp.2
       have e0:(a.add (0*P.cellsOf e)).add 0=a:=by simp [Addr.add]
       rw [e0] at h1
       exact aPq h1
      obtain ⟨b,o,s⟩:=a
      obtain ⟨rfl,hbl⟩:=hspot
      rw [← hxl]
      refine .row b o cap (P.cellsOf e) xs (fun j=>(W.cell? ⟨b,o+j,none⟩).getD undef) (fun x hxm=>?_) (by omega) (fun j hj=>⟨hbl,?_⟩) (fun i j x p hi hj=>?_)
      ·
       obtain ⟨i,hi⟩:=kB hxm
       exact (hsz i x hi).1
      ·
       have hi:j / P.cellsOf e<xs.length:=by rw [qN hp.2];exact hj
       obtain ⟨u,p,h1,_⟩:=(hsz _ _ (aT hi)).2 (j % P.cellsOf e) (Nat.mod_lt _ hp.2)
       have e2:j / P.cellsOf e*P.cellsOf e+j % P.cellsOf e=j:=by rw [rP];exact Nat.div_add_mod _ _
       rw [aE9,aE9,mM,e2] at h1
       simp [h1]
      ·
       have hjl:j<P.cellsOf e:=by rw [← (hsz i x hi).1];exact (cD.1 hj).1
       obtain ⟨u,p',h1,h2,h3⟩:=(hsz i x hi).2 j hjl
       rw [hj] at h2
       cases h2
       rw [aE9,aE9,mM] at h1
       simpa [h1] using h3
    ·
     simp only [uH,hu]
     exact ⟨xs,rfl,hsh,by rw [hxl];unfold maxLen at hcm;omega,by rw [hxl];exact iR (kC _ (by omega)) hbytes⟩
  ·
   rename_i fs hu
   simp only [bZ,cR,jU,oZ] at hp
   obtain ⟨xs,m,hm,rfl,hlen,hxl,hget⟩:=DataW.trod_struct hu h
   obtain rfl:n=m:=by omega
   obtain ⟨ps,h1,h2⟩:=aM8 (S:=uH P n) fs.toList 0 (hp.2.trans (by rw [hlen])) (fun f hf=>by
    obtain ⟨i,hi⟩:=kB hf
    have hi':fs[i]?=some f:=by simpa using hi
    have hil:i<xs.length:=by rw [hxl];exact (kS.1 hi').1
    have hg:=hget i f hi'
    rw [aT hil] at hg
    refine ih f.type _ _ (hp.1 f hf) hg (fun y hy=>hwt y ?_)
    have:DataW.weights P t (DataW.agg (xs.map (·.1)))=DataW.weightsEach P (fs.toList.map (·.type)) (xs.map (·.1)):=by simp [DataW.weights,hu]
    simp only [this]
    exact aEa (i:=i) (by rw [cJ,hi];rfl) (by rw [cJ,aT hil];rfl) hy)
   exact ⟨ps,by simpa using h1,by simpa [uH,hu] using h2⟩
  ·
   cases hp
open Go RowKit
def aT1 (W:World):G:=⟨old W,[],fun _=>none⟩
theorem aPA {P:Program}{f:FuncId}{args:List AV}{W:World}{vs:Array Value} (hc:cQ P f args [] (.c (.bool true)) []) (hv:iE (aT1 W) W vs args) (hg:Glo (old W) W) :
  Calls P f vs W fun e w'=>e=.returned (.bool true)∧Below W.heap.size W w':=by
 have h:=hc.2 W (old W) [] (fun _=>none) vs (fun b o hb=>hb) (by simp) (by simp) (by simp) (by simp) (by simp) rfl (by simp) hv hg
 refine h.mono fun e w' he=>?_
 obtain ⟨v,g',rfl,hi,hr⟩:=he
 obtain ⟨⟩ | _:=hr
 rename_i h
 cases h
 exact ⟨rfl,hi.os,hi.tape,hi.output,hi.size,fun k hk=>hi.old k hk (by simp) (fun h=>by obtain ⟨t,h⟩:=h;cases h)⟩
theorem aN8 {g:G}{w:World}:iE g w #[] []:=⟨rfl,fun i v a h=>by simp at h⟩
theorem aMK {g:G}{w:World}{v:Value}{a:AV}{vs:List Value}{as:List AV} (h:oP g w v a) (t:iE g w vs.toArray as):iE g w (v :: vs).toArray (a :: as):=by
 refine ⟨by simpa using t.1,fun i u b hu hb=>?_⟩
 cases i with
 | zero=>simp at hu hb;subst hu;subst hb;exact h
 | succ i=>exact t.2 i u b (by simpa using hu) (by simpa using hb)
theorem aQ3 {H:Type}{enc:TypeId × Value→H}{P:Program}{W:World}{base:Nat}{spare:Nat→Bool}{held:Bool}{L:List TypeId} (hL:aLk P L=true) {t:TypeId} (ht:t∈L) {v:Value}{d:DataW H}{mp:List MemPlace}
  (hk:kF P t=1∨kF P t=2∨kF P t=3∨kF P t=4) (hv:Value.okWide P W .any base t v) (h:DataW.Trod enc P W 0 spare held t v d mp) (hwt:∀ y∈d.weights P t,y≤140737488351232):∃ p n,oP (aT1 W) W v (.c p)∧uH P n t [p]:=by
 obtain ⟨fuel,hf⟩:=h
 obtain ⟨ps,h1,h2⟩:=aSG hL fuel t _ _ ht hf hwt
 have hone:v.cells.toList=[v]:=by
  have hp:=cR.1 hL t ht
  unfold kF at hk
  split at hp
  ·
   rename_i hu
   simp only [Value.okWide,hu] at hv
   cases v <;> simp_all [Value.cells,Cell.okWide,Cell.ok]
  ·
   rename_i hu
   simp only [Value.okWide,hu] at hv
   cases v <;> simp_all [Value.cells,Cell.okWide,Cell.ok]
  ·
   rename_i hu
   simp only [Value.okWide,hu] at hv
   cases v <;> simp_all [Value.cells,Cell.okWide,Cell.ok]
  ·
   rename_i hu
   simp only [Value.okWide,hu] at hv
   cases v <;> simp_all [Value.cells,Cell.okWide,Cell.ok]
  ·
   rename_i hu
   simp [hu] at hk
  ·
   cases hp
 rw [hone] at h1
 obtain ⟨p,rfl⟩:∃ p,ps=[p]:=by
  match ps,h1.1 with
  | [p],_=>exact ⟨p,rfl⟩
 exact ⟨p,fuel,.c (h1.2 0 v p rfl rfl),h2⟩
variable {mo:Bool}
def PV.ls {α:Type} (sz:Nat) (row:α→List PV) (xs:List α):PV:=.list sz (xs.map row)
def AV.os {α:Type} (t sz:Nat) (row:α→List PV) (xs:List α):AV:=.own t sz (xs.map row)
abbrev aI {k:IntKind}{n:Int}:AV:=.c (.int k n)
abbrev aB {b:Bool}:AV:=.c (.bool b)
abbrev aS {s:List UInt8}:AV:=.c (.str s)
abbrev aL {α:Type}{sz:Nat}{row:α→List PV}{xs:List α}:AV:=.c (PV.ls sz row xs)
abbrev aO {α:Type}{t sz:Nat}{row:α→List PV}{xs:List α}:AV:=AV.os t sz row xs
def AV.cs (l:List PV):List AV:=l.map .c
def gv (c:Bool) (v:AV):AV:=if c then v else .tup []
theorem gx {c:Bool}{x v:AV} (h:x=gv c v) (hc:c=true):x=v:=by rw [h,gv,bH hc]
def isl {α:Type} (a:AV) (sz:Nat) (row:α→List PV) (xs:List α):Prop:=a=.c (PV.ls sz row xs)∨∃ t,a=.os t sz row xs
theorem eK {α:Type}{a:AV}{sz:Nat}{row:α→List PV}{xs:List α} (h:a=.c (PV.ls sz row xs)):isl a sz row xs:=.inl h
theorem oC {α:Type}{a:AV}{t sz:Nat}{row:α→List PV}{xs:List α} (h:a=.os t sz row xs):isl a sz row xs:=.inr ⟨t,h⟩
def Pv (P:Program) (o:Oper) (ev:Operand→AV) (σ:St) (v:AV):Prop:=∀ K:Option (Nat→Bool)→AV→St→Prop,K .none v σ→aEB P o ev σ K
def aB4 (o:Oper):Bool:=match o.op with | .call { callee:=.value _,.. }=>false | _=>(aCo o).isNone
theorem yL {P:Program}{o:Oper}{fr:Fr}{σ:St}{K:Fr→St→Prop} (hp:aB4 o=true) (h:aEB P o fr.ev σ fun dm v σ'=>K ((fr.demo dm).put o.dst v) σ'):aop P o fr σ K:=by
 unfold aB4 at hp
 unfold aop
 split at hp
 ·
  cases hp
 ·
  rename_i hno
  split
  ·
   rename_i f args argTypes hop
   exact absurd hop (hno _ _ _)
  ·
   split
   ·
    rename_i hn;rw [hn] at hp;cases hp
   ·
    exact h
theorem aNB {P:Program}{o:Oper}{fr:Fr}{σ:St}{K:AV→Prop} (hp:aB4 o=true) (h:aEB P o fr.ev σ (QQ σ K)):aPf P o fr σ K:=by
 unfold aB4 at hp
 unfold aPf
 split at hp
 ·
  cases hp
 ·
  rename_i hno
  split
  ·
   rename_i f args argTypes hop
   exact absurd hop (hno _ _ _)
  ·
   exact h
def aFw (ops:List Oper) (j:Nat):Option Nat:=(ops[j]?).bind (·.dst)
theorem aRM {ops:List Oper}{o:Oper}{j dj:Nat}{w b:Bool}{get:Nat→AV}{yes no:Prop} (hg:o.guard=some (j,w)) (hj:aFw ops j=some dj) (hs:get dj=.c (.bool b)) (hy:b=w→yes) (hn:b≠w→no):rN ops o get yes no:=by
 unfold aFw at hj
 obtain ⟨p,hp,hd⟩:=pB.1 hj
 unfold rN
 rw [hg]
 simp only [hp,hd,hs]
 exact ⟨hy,hn⟩
theorem aUM {ops:List Oper}{o:Oper}{j dj:Nat}{w:Bool}{get:Nat→AV}{yes no:Prop} (hg:o.guard=some (j,w)) (hj:aFw ops j=some dj) (hs:get dj=.tup []) (hn:no):rN ops o get yes no:=by
 unfold aFw at hj
 obtain ⟨p,hp,hd⟩:=pB.1 hj
 unfold rN
 rw [hg]
 simp only [hp,hd,hs]
 exact hn
section
variable {P:Program}{all r:List Oper}{d dj j:Nat}{op:Op}{ty:TypeId}{pos:String}{af:Array Edge}{fr:Fr}{σ:St}{K:Fr→St→Prop}{Kq:Fr→Prop}{v:AV}{b c w:Bool}
theorem aR (hp:aB4 ⟨some d,op,ty,pos,af,none⟩=true) (hv:Pv P ⟨some d,op,ty,pos,af,none⟩ fr.ev σ v) (h:mO mo P all r ((d,v) :: fr) σ K):mO mo P all (⟨some d,op,ty,pos,af,none⟩ :: r) fr σ K:=aKZ <|
 yL hp (hv _ h)
def Qv (P:Program) (o:Oper) (fr:Fr) (σ:St) (v:AV):Prop:=∀ K:AV→Prop,K v→aPf P o fr σ K
theorem kU {o:Oper} (hp:aB4 o=true) (hv:Pv P o fr.ev σ v):Qv P o fr σ v:=fun K h=>aNB hp (hv _ ⟨rfl,rfl,h⟩)
def Ov (P:Program) (o:Oper) (fr:Fr) (σ:St) (v:AV):Prop:=∀ K:Fr→St→Prop,K (fr.put o.dst v) σ→aop P o fr σ K
theorem fS {o:Oper} (hp:aB4 o=true) (hv:Pv P o fr.ev σ v):Ov P o fr σ v:=fun K h=>yL hp (hv _ h)
theorem sX (hj:aFw all j=some dj) (hs:fr.get dj=.c (.bool b)) (hv:(b==w)=true→Ov P ⟨some d,op,ty,pos,af,some (j,w)⟩ fr σ v) (h:mO mo P all r ((d,gv (b==w) v) :: fr) σ K):mO mo P all (⟨some d,op,ty,pos,af,some (j,w)⟩ :: r) fr σ K:=by
 refine aRM rfl hj hs (fun e=>?_) (fun e=>?_)
 ·
  have e':(b==w)=true:=by simp [e]
  refine aKZ (hv e' _ ?_)
  rw [e',gv,bH rfl] at h
  exact h
 ·
  have e':(b==w)=false:=by simpa using e
  rw [e',gv,bE (by simp)] at h
  exact h
theorem fD (hj:aFw all j=some dj) (hs:fr.get dj=gv c (.c (.bool b))) (hv:(c&&(b==w))=true→Ov P ⟨some d,op,ty,pos,af,some (j,w)⟩ fr σ v) (h:mO mo P all r ((d,gv (c&&(b==w)) v) :: fr) σ K):mO mo P all (⟨some d,op,ty,pos,af,some (j,w)⟩ :: r) fr σ K:=by
 cases c with
 | true =>
  rw [dZ] at h hv
  exact sX hj (by rw [hs,gv,bH rfl]) hv h
 | false =>
  rw [gv,bE (by simp)] at hs
  rw [Bool.false_and,gv,bE (by simp)] at h
  exact aUM rfl hj hs h
theorem aKr {dst:Option Tmp}{g g':Option (Nat × Bool)}:aop P ⟨dst,op,ty,pos,af,g⟩ fr σ K=aop P ⟨dst,op,ty,pos,af,g'⟩ fr σ K:=by
 cases op
 case call c=>obtain ⟨callee,args,argTypes⟩:=c;cases callee <;> first | rfl | (rename_i b;cases b <;> rfl)
 case slice t x lo hi mx=>cases mx <;> rfl
 case makeFunc fn f cs=>cases fn <;> rfl
 all_goals rfl
theorem aNx {dst:Option Tmp}{g g':Option (Nat × Bool)}:aNw P ⟨dst,op,ty,pos,af,g⟩ fr σ K=aNw P ⟨dst,op,ty,pos,af,g'⟩ fr σ K:=aKr
theorem aNv {dst:Option Tmp}{g g':Option (Nat × Bool)}:aRO mo P ⟨dst,op,ty,pos,af,g⟩ fr σ K=aRO mo P ⟨dst,op,ty,pos,af,g'⟩ fr σ K:=by
 cases mo
 ·
  exact aKr
 ·
  exact aNx
theorem oE {dst:Option Tmp} (hj:aFw all j=some dj) (hs:fr.get dj=.c (.bool b)) (hb:b=w) (h:mO mo P all (⟨dst,op,ty,pos,af,none⟩ :: r) fr σ K):mO mo P all (⟨dst,op,ty,pos,af,some (j,w)⟩ :: r) fr σ K :=
 aRM rfl hj hs (fun _=>by rw [aNv (g':=none)];exact h) (fun e=>absurd hb e)
theorem aDn {dst:Option Tmp} (hj:aFw all j=some dj) (hs:fr.get dj=.c (.bool b)) (hb:b=!w) (h:mO mo P all r (fr.put dst (.tup [])) σ K):mO mo P all (⟨dst,op,ty,pos,af,some (j,w)⟩ :: r) fr σ K :=
 aRM rfl hj hs (fun e=>by subst e;cases b <;> simp at hb) (fun _=>h)
end
section
variable {P:Program}{d:Option Tmp}{ty:TypeId}{pos:String}{af:Array Edge}{gd:Option (Nat × Bool)}{ev:Operand→AV}{σ:St}{x y z:Operand}{t t2:TypeId}{k k':IntKind}{a b:Int}{v:AV}
theorem bN (hx:ev x=v):Pv P ⟨d,.move x,ty,pos,af,gd⟩ ev σ v:=fun K h=>by (refine .inl ?_;simp only [eL]);rw [hx];exact h
theorem aGw (hx:ev x=v):Pv P ⟨d,.assign x,ty,pos,af,gd⟩ ev σ v:=fun K h=>by (refine .inl ?_;simp only [eL]);rw [hx];exact h
theorem aQ6 {q p1 p2:Bool} (hx:ev x=.c (.bool q)) (hy:ev y=.c (.bool p1)) (hz:ev z=.c (.bool p2)):Pv P ⟨d,.pick x y z,ty,pos,af,gd⟩ ev σ (.c (.bool (cond q p1 p2))):=fun K h=>by
 (refine .inl ?_;simp only [eL,hx,hy,hz])
 cases q <;> exact h
theorem bV {q p1 p2 c:Bool} (hx:ev x=.c (.bool q)) (hy:ev y=gv c (.c (.bool p1))) (hz:ev z=.c (.bool p2)) (hc:q=true→c=true):Pv P ⟨d,.pick x y z,ty,pos,af,gd⟩ ev σ (.c (.bool (cond q p1 p2))):=by
 cases c with
 | true=>exact aQ6 hx (by rw [hy,gv,bH rfl]) hz
 | false =>
  cases q with
  | true=>cases hc rfl
  | false =>
   intro K h
   (refine .inl ?_;simp only [eL,hx,hy,hz,gv,bE (show ¬(false=true) by simp)])
   exact ⟨fun e=>(by cases e),fun _=>h⟩
theorem cN {q p1 p2 c:Bool} (hx:ev x=.c (.bool q)) (hy:ev y=.c (.bool p1)) (hz:ev z=gv c (.c (.bool p2))) (hc:q=false→c=true):Pv P ⟨d,.pick x y z,ty,pos,af,gd⟩ ev σ (.c (.bool (cond q p1 p2))):=by
 cases c with
 | true=>exact aQ6 hx hy (by rw [hz,gv,bH rfl])
 | false =>
  cases q with
  | false=>cases hc rfl
  | true =>
   intro K h
   (refine .inl ?_;simp only [eL,hx,hy,hz,gv,bE (show ¬(false=true) by simp)])
   exact ⟨fun _=>h,fun e=>(by cases e)⟩
theorem aK {id off n:Nat}{cs:List AV} (ht:oV P t=some (false,n)) (hx:ev x=.box id off) (hs:σ[id]?=some cs) (hc:cs[off]?=some v):Pv P ⟨d,.load t x,ty,pos,af,gd⟩ ev σ v:=fun K h=>by
 (refine .inl ?_;simp only [eL,ht,hx,aBy,hs,hc]);exact h
theorem dL {id off n:Nat}{cs us:List AV} (ht:oV P t=some (true,n)) (hx:ev x=.box id off) (hs:σ[id]?=some cs) (hn:Nat.ble (off+n) cs.length=true) (hc:(cs.drop off).take n=us):Pv P ⟨d,.load t x,ty,pos,af,gd⟩ ev σ (.agg us):=fun K h=>by
 (refine .inl ?_;simp only [eL,ht,hx,aBy,hs]);subst hc;exact ⟨by rw [Nat.ble_eq] at hn;exact hn,h⟩
theorem gP {off n:Nat}{cs:List PV}{p:PV} (ht:oV P t=some (false,n)) (hx:ev x=.eptr cs off) (hc:cs[off]?=some p):Pv P ⟨d,.load t x,ty,pos,af,gd⟩ ev σ (.c p):=fun K h=>by
 (refine .inl ?_;simp only [eL,ht,hx,aBy,hc]);exact h
theorem lT {off n:Nat}{cs us:List PV} (ht:oV P t=some (true,n)) (hx:ev x=.eptr cs off) (hn:Nat.ble (off+n) cs.length=true) (hc:(cs.drop off).take n=us):Pv P ⟨d,.load t x,ty,pos,af,gd⟩ ev σ (.agg (AV.cs us)):=fun K h=>by
 (refine .inl ?_;simp only [eL,ht,hx,aBy]);subst hc;exact ⟨by rw [Nat.ble_eq] at hn;exact hn,h⟩
theorem kI {n:Nat}{p:Nat × Nat} (ht:oV P t=some (false,n)) (hx:ev x=.pptr p):Pv P ⟨d,.load t x,ty,pos,af,gd⟩ ev σ (.box p.1 p.2):=fun K h=>by
 (refine .inl ?_;simp only [eL,ht,hx,aBy]);exact ⟨trivial,h⟩
theorem jM {i m:Nat} (hx:ev x=.box i m):Pv P ⟨d,.nilCheck x,ty,pos,af,gd⟩ ev σ (.box i m):=fun K h=>by (refine .inl ?_;simp only [eL,hx]);exact h
theorem gC (hx:ev x=.c (.int k a)) (hy:ev y=.c (.int k b)):Pv P ⟨d,.binOp .add t x y t2,ty,pos,af,gd⟩ ev σ (.c (.int k (k.wrap (a+b)))):=fun K h=>by (refine .inl ?_;simp only [eL,yX,hx,hy]);exact ⟨trivial,h⟩
theorem aFA (hx:ev x=.c (.int k a)) (hy:ev y=.c (.int k b)):Pv P ⟨d,.binOp .sub t x y t2,ty,pos,af,gd⟩ ev σ (.c (.int k (k.wrap (a - b)))):=fun K h=>by (refine .inl ?_;simp only [eL,yX,hx,hy]);exact ⟨trivial,h⟩
theorem aQ5 (hx:ev x=.c (.int k a)) (hy:ev y=.c (.int k b)):Pv P ⟨d,.binOp .mul t x y t2,ty,pos,af,gd⟩ ev σ (.c (.int k (k.wrap (a*b)))):=fun K h=>by (refine .inl ?_;simp only [eL,yX,hx,hy]);exact ⟨trivial,h⟩
theorem aSX (hx:ev x=.c (.int k a)) (hy:ev y=.c (.int k b)) (h0:b≠0):Pv P ⟨d,.binOp .quo t x y t2,ty,pos,af,gd⟩ ev σ (.c (.int k (k.wrap (a.tdiv b)))):=fun K h=>by (refine .inl ?_;simp only [eL,yX,hx,hy]);exact ⟨trivial,h0,h⟩
theorem aQ7 (hx:ev x=.c (.int k a)) (hy:ev y=.c (.int k b)) (h0:b≠0):Pv P ⟨d,.binOp .rem t x y t2,ty,pos,af,gd⟩ ev σ (.c (.int k (a.tmod b))):=fun K h=>by (refine .inl ?_;simp only [eL,yX,hx,hy]);exact ⟨trivial,h0,h⟩
theorem bU (hx:ev x=.c (.int k a)) (hy:ev y=.c (.int k b)):Pv P ⟨d,.binOp .eql t x y t2,ty,pos,af,gd⟩ ev σ (.c (.bool (decide (a=b)))):=fun K h=>by (refine .inl ?_;simp only [eL,yX,hx,hy]);exact ⟨trivial,h⟩
theorem iS (hx:ev x=.c (.int k a)) (hy:ev y=.c (.int k b)):Pv P ⟨d,.binOp .neq t x y t2,ty,pos,af,gd⟩ ev σ (.c (.bool (!decide (a=b)))):=fun K h=>by (refine .inl ?_;simp only [eL,yX,hx,hy]);exact ⟨trivial,h⟩
theorem gI (hx:ev x=.c (.int k a)) (hy:ev y=.c (.int k b)):Pv P ⟨d,.binOp .lss t x y t2,ty,pos,af,gd⟩ ev σ (.c (.bool (decide (a<b)))):=fun K h=>by (refine .inl ?_;simp only [eL,yX,hx,hy]);exact ⟨trivial,h⟩
theorem nM (hx:ev x=.c (.int k a)) (hy:ev y=.c (.int k b)):Pv P ⟨d,.binOp .leq t x y t2,ty,pos,af,gd⟩ ev σ (.c (.bool (decide (a≤b)))):=fun K h=>by (refine .inl ?_;simp only [eL,yX,hx,hy]);exact ⟨trivial,h⟩
theorem qW (hx:ev x=.c (.int k a)) (hy:ev y=.c (.int k b)):Pv P ⟨d,.binOp .gtr t x y t2,ty,pos,af,gd⟩ ev σ (.c (.bool (decide (b<a)))):=fun K h=>by (refine .inl ?_;simp only [eL,yX,hx,hy]);exact ⟨trivial,h⟩
theorem oI (hx:ev x=.c (.int k a)) (hy:ev y=.c (.int k b)):Pv P ⟨d,.binOp .geq t x y t2,ty,pos,af,gd⟩ ev σ (.c (.bool (decide (b≤a)))):=fun K h=>by (refine .inl ?_;simp only [eL,yX,hx,hy]);exact ⟨trivial,h⟩
theorem aSW (hx:ev x=.c (.int k a)) (hy:ev y=.c (.int k b)):Pv P ⟨d,.binOp .and t x y t2,ty,pos,af,gd⟩ ev σ (.c (.int k (mU .and k a b))):=fun K h=>by (refine .inl ?_;simp only [eL,yX,hx,hy]);exact ⟨trivial,h⟩
theorem aT8 (hx:ev x=.c (.int k a)) (hy:ev y=.c (.int k b)):Pv P ⟨d,.binOp .or t x y t2,ty,pos,af,gd⟩ ev σ (.c (.int k (mU .or k a b))):=fun K h=>by (refine .inl ?_;simp only [eL,yX,hx,hy]);exact ⟨trivial,h⟩
theorem aS0 (hx:ev x=.c (.int k a)) (hy:ev y=.c (.int k b)):Pv P ⟨d,.binOp .xor t x y t2,ty,pos,af,gd⟩ ev σ (.c (.int k (mU .xor k a b))):=fun K h=>by (refine .inl ?_;simp only [eL,yX,hx,hy]);exact ⟨trivial,h⟩
theorem aSY (hx:ev x=.c (.int k a)) (hy:ev y=.c (.int k' b)) (h0:0≤b):Pv P ⟨d,.binOp .shl t x y t2,ty,pos,af,gd⟩ ev σ (.c (.int k (k.wrap (a*2 ^ (min b.toNat k.bits))))):=fun K h=>by (refine .inl ?_;simp only [eL,yX,hx,hy]);exact ⟨h0,h⟩
theorem aQ9 (hx:ev x=.c (.int k a)) (hy:ev y=.c (.int k' b)) (h0:0≤b):Pv P ⟨d,.binOp .shr t x y t2,ty,pos,af,gd⟩ ev σ (.c (.int k (a.fdiv (2 ^ (min b.toNat k.bits))))):=fun K h=>by (refine .inl ?_;simp only [eL,yX,hx,hy]);exact ⟨h0,h⟩
theorem aN3 {s u:List UInt8} (hx:ev x=.c (.str s)) (hy:ev y=.c (.str u)) (h0:s.length+u.length≤9223372036854775807):Pv P ⟨d,.binOp .add t x y t2,ty,pos,af,gd⟩ ev σ (.c (.str (s++u))):=fun K h=>by (refine .inl ?_;simp only [eL,yX,hx,hy]);exact ⟨h0,h⟩
theorem qX {s u:List UInt8} (hx:ev x=.c (.str s)) (hy:ev y=.c (.str u)):Pv P ⟨d,.binOp .eql t x y t2,ty,pos,af,gd⟩ ev σ (.c (.bool (decide (s=u)))):=fun K h=>by (refine .inl ?_;simp only [eL,yX,hx,hy]);exact h
theorem wZ {s u:List UInt8} (hx:ev x=.c (.str s)) (hy:ev y=.c (.str u)):Pv P ⟨d,.binOp .neq t x y t2,ty,pos,af,gd⟩ ev σ (.c (.bool (!decide (s=u)))):=fun K h=>by (refine .inl ?_;simp only [eL,yX,hx,hy]);exact h
theorem aTz {s u:List UInt8} (hx:ev x=.c (.str s)) (hy:ev y=.c (.str u)):Pv P ⟨d,.binOp .lss t x y t2,ty,pos,af,gd⟩ ev σ (.c (.bool (Op.bytesLess s u))):=fun K h=>by (refine .inl ?_;simp only [eL,yX,hx,hy]);exact h
theorem aTv {s u:List UInt8} (hx:ev x=.c (.str s)) (hy:ev y=.c (.str u)):Pv P ⟨d,.binOp .gtr t x y t2,ty,pos,af,gd⟩ ev σ (.c (.bool (!(Op.bytesLess s u||decide (s=u))))):=fun K h=>by (refine .inl ?_;simp only [eL,yX,hx,hy]);exact h
theorem aQ8 {s u:List UInt8} (hx:ev x=.c (.str s)) (hy:ev y=.c (.str u)):Pv P ⟨d,.binOp .geq t x y t2,ty,pos,af,gd⟩ ev σ (.c (.bool (!Op.bytesLess s u))):=fun K h=>by (refine .inl ?_;simp only [eL,yX,hx,hy]);exact h
theorem aJb {i m:Nat} (ht:kF P t=5) (hx:ev x=.box i m) (hy:ev y=.nilptr):Pv P ⟨d,.binOp .eql t x y t2,ty,pos,af,gd⟩ ev σ (.c (.bool false)):=fun K h=>by (refine .inl ?_;simp only [eL,yX,hx,hy]);exact ⟨ht,h⟩
theorem fE {p:Bool} (hx:ev x=.c (.bool p)):Pv P ⟨d,.unOp .not t x,ty,pos,af,gd⟩ ev σ (.c (.bool (!p))):=fun K h=>by (refine .inl ?_;simp only [eL,hx]);exact h
theorem aON (hx:ev x=.c (.int k a)):Pv P ⟨d,.unOp .neg t x,ty,pos,af,gd⟩ ev σ (.c (.int k (k.wrap (0 - a)))):=fun K h=>by (refine .inl ?_;simp only [eL,hx]);exact h
theorem aCv {kd ks:IntKind} (hs:aC2 P t=some ks) (hd:aC2 P t2=some kd) (hx:ev x=.c (.int k a)):Pv P ⟨d,.convert t t2 x,ty,pos,af,gd⟩ ev σ (.c (.int kd (kd.wrap a))):=fun K h=>by (refine .inl ?_;simp only [eL,hx,hd,hs]);exact h
theorem aGx {sz:Nat}{xs:List UInt8} (hs:eL.tyBytes P t) (hd:kF P t2=2) (hx:isl (ev x) sz iT xs):Pv P ⟨d,.convert t t2 x,ty,pos,af,gd⟩ ev σ (.c (.str xs)):=fun K h=>by
 rcases hx with hx | ⟨_,hx⟩ <;> (refine .inl ?_;simp only [eL,hx,PV.ls,AV.os]) <;> exact ⟨hs,hd,xs,rfl,h⟩
theorem aTu {f:FuncId}{first captured:Array Operand}{cs:List AV} (hf:first=#[]) (hc:captured.toList.map ev=cs):Pv P ⟨d,.makeFunc (.func f) first captured,ty,pos,af,gd⟩ ev σ (.fn f cs):=fun K h=>by
 (refine .inl ?_;simp only [eL]);subst hc;exact ⟨hf,h⟩
theorem b_l {n:Nat}{a:AV}{l:Int}{kk:Nat→Nat→Prop} (ha:a=.c (.int k l)) (h0:0≤l∧l≤n) (h:kk l.toNat n):tS (some a) .none n kk:=by subst ha;exact ⟨h0.1,h0.2,h⟩
theorem b_h {n:Nat}{a:AV}{l:Int}{kk:Nat→Nat→Prop} (ha:a=.c (.int k l)) (h0:0≤l∧l≤n) (h:kk 0 l.toNat):tS .none (some a) n kk:=by subst ha;exact ⟨h0.1,h0.2,h⟩
theorem b_b {n:Nat}{a a':AV}{l l':Int}{kk:Nat→Nat→Prop} (ha:a=.c (.int k l)) (ha':a'=.c (.int k' l')) (h0:0≤l∧l≤l'∧l'≤n) (h:kk l.toNat l'.toNat):tS (some a) (some a') n kk:=by subst ha;subst ha';exact ⟨h0.1,h0.2.1,h0.2.2,h⟩
theorem aTw {α:Type}{e:TypeId}{sz by_:Nat}{row:α→List PV}{xs:List α}{l h:Nat}{lo hi:Option Operand} (h7:kF P t≠7) (ht:nJ P t=some (e,sz,by_)) (hx:isl (ev x) sz row xs)
  (hb:∀ kk:Nat→Nat→Prop,kk l h→tS (lo.map ev) (hi.map ev) xs.length kk):Pv P ⟨d,.slice t x lo hi .none,ty,pos,af,gd⟩ ev σ (.c (PV.ls sz row ((xs.take h).drop l))):=fun K hk=>by
 have e1:PV.ls sz row ((xs.take h).drop l)=.list sz (((xs.map row).take h).drop l):=by simp [PV.ls,List.map_take,List.map_drop]
 rw [e1] at hk
 rcases hx with hx | ⟨t0,hx⟩ <;> (refine .inl ?_;simp only [eL,hx,PV.ls,AV.os,aC7,ht]) <;> exact ⟨h7,trivial,by rw [iI];exact hb _ hk⟩
theorem aSZ {s:List UInt8}{l h:Nat}{lo hi:Option Operand} (h7:kF P t=2) (hx:ev x=.c (.str s))
  (hb:∀ kk:Nat→Nat→Prop,kk l h→tS (lo.map ev) (hi.map ev) s.length kk):Pv P ⟨d,.slice t x lo hi .none,ty,pos,af,gd⟩ ev σ (.c (.str ((s.take h).drop l))):=fun K hk=>by
 (refine .inl ?_;simp only [eL,hx,aC7])
 exact ⟨by rw [h7];decide,h7,hb _ hk⟩
theorem aN4 {α:Type}{e:TypeId}{sz by_:Nat}{row:α→List PV}{xs:List α}{l:Int} (h7:kF P t≠7) (ht:nJ P t=some (e,sz,by_)) (hx:isl (ev x) sz row xs) (hy:ev y=.c (.int k l)) (h0:0≤l∧l≤xs.length):Pv P ⟨d,.slice t x (some y) .none .none,ty,pos,af,gd⟩ ev σ (.c (PV.ls sz row (xs.drop l.toNat))):=by
 have:=aTw (d:=d) (ty:=ty) (pos:=pos) (af:=af) (gd:=gd) (σ:=σ) (l:=l.toNat) (h:=xs.length) (lo:=some y) (hi:=.none) h7 ht hx (fun kk=>b_l hy h0)
 simpa using this
theorem aTy {α:Type}{e:TypeId}{sz by_:Nat}{row:α→List PV}{xs:List α}{l:Int} (h7:kF P t≠7) (ht:nJ P t=some (e,sz,by_)) (hx:isl (ev x) sz row xs) (hy:ev y=.c (.int k l)) (h0:0≤l∧l≤xs.length):Pv P ⟨d,.slice t x .none (some y) .none,ty,pos,af,gd⟩ ev σ (.c (PV.ls sz row (xs.take l.toNat))):=by
 have:=aTw (d:=d) (ty:=ty) (pos:=pos) (af:=af) (gd:=gd) (σ:=σ) (l:=0) (h:=l.toNat) (lo:=.none) (hi:=some y) h7 ht hx (fun kk=>b_h hy h0)
 simpa using this
theorem aTx {α:Type}{e:TypeId}{sz by_:Nat}{row:α→List PV}{xs:List α}{l h:Int} (h7:kF P t≠7) (ht:nJ P t=some (e,sz,by_)) (hx:isl (ev x) sz row xs) (hy:ev y=.c (.int k l)) (hz:ev z=.c (.int k' h)) (h0:0≤l∧l≤h∧h≤xs.length):Pv P ⟨d,.slice t x (some y) (some z) .none,ty,pos,af,gd⟩ ev σ (.c (PV.ls sz row ((xs.take h.toNat).drop l.toNat))) :=
 aTw (l:=l.toNat) (h:=h.toNat) (lo:=some y) (hi:=some z) h7 ht hx (fun kk=>b_b hy hz h0)
theorem aID {s:List UInt8}{l:Int} (h7:kF P t=2) (hx:ev x=.c (.str s)) (hy:ev y=.c (.int k l)) (h0:0≤l∧l≤s.length):Pv P ⟨d,.slice t x (some y) .none .none,ty,pos,af,gd⟩ ev σ (.c (.str (s.drop l.toNat))):=by
 have:=aSZ (P:=P) (d:=d) (ty:=ty) (pos:=pos) (af:=af) (gd:=gd) (σ:=σ) (l:=l.toNat) (h:=s.length) (lo:=some y) (hi:=.none) h7 hx (fun kk=>b_l hy h0)
 simpa using this
theorem aOO {s:List UInt8}{l:Int} (h7:kF P t=2) (hx:ev x=.c (.str s)) (hy:ev y=.c (.int k l)) (h0:0≤l∧l≤s.length):Pv P ⟨d,.slice t x .none (some y) .none,ty,pos,af,gd⟩ ev σ (.c (.str (s.take l.toNat))):=by
 have:=aSZ (P:=P) (d:=d) (ty:=ty) (pos:=pos) (af:=af) (gd:=gd) (σ:=σ) (l:=0) (h:=l.toNat) (lo:=.none) (hi:=some y) h7 hx (fun kk=>b_h hy h0)
 simpa using this
theorem hZ {α:Type}{sz:Nat}{row:α→List PV}{xs:List α} (ht:kF P t=3) (hx:isl (ev x) sz row xs):Pv P ⟨d,.call { callee:=.builtin .len,args:=#[x],argTypes:=#[t] },ty,pos,af,gd⟩ ev σ (.c (.int .i64 xs.length)):=fun K h=>by
 rcases hx with hx | ⟨_,hx⟩ <;> (refine .inl ?_;simp only [eL,hx,aG6,PV.ls,AV.os,iI]) <;> exact ⟨ht,h⟩
theorem kT {s:List UInt8} (ht:kF P t=2) (hx:ev x=.c (.str s)):Pv P ⟨d,.call { callee:=.builtin .len,args:=#[x],argTypes:=#[t] },ty,pos,af,gd⟩ ev σ (.c (.int .i64 s.length)):=fun K h=>by (refine .inl ?_;simp only [eL,hx,aG6]);exact ⟨ht,h⟩
theorem aLi {l:List (Nat × Nat)} (ht:kF P t=3) (hx:ev x=.ptrs l):Pv P ⟨d,.call { callee:=.builtin .len,args:=#[x],argTypes:=#[t] },ty,pos,af,gd⟩ ev σ (.c (.int .i64 l.length)):=fun K h=>by (refine .inl ?_;simp only [eL,hx,aG6]);exact ⟨ht,h⟩
theorem aT7 {ts:Array TypeId} (hx:ev x=.c (.int k a)) (hy:ev y=.c (.int k' b)):Pv P ⟨d,.call { callee:=.builtin .max,args:=#[x,y],argTypes:=ts },ty,pos,af,gd⟩ ev σ (.c (.int k (if b > a then b else a))):=fun K h=>by (refine .inl ?_;simp only [eL,hx,hy]);exact h
theorem bD {f k0 n id off:Nat}{ag:Bool} (ht:eI P t f=some (k0,ag,n)) (hx:ev x=.box id off):Pv P ⟨d,.fieldAddr t x f,ty,pos,af,gd⟩ ev σ (.box id (off+k0)):=fun K h=>by (refine .inl ?_;simp only [eL,ht,hx]);exact h
theorem zI {f k0 n off:Nat}{ag:Bool}{cs:List PV} (ht:eI P t f=some (k0,ag,n)) (hx:ev x=.eptr cs off):Pv P ⟨d,.fieldAddr t x f,ty,pos,af,gd⟩ ev σ (.eptr cs (off+k0)):=fun K h=>by (refine .inl ?_;simp only [eL,ht,hx]);exact h
theorem lF {α:Type}{e:TypeId}{sz by_:Nat}{row:α→List PV}{xs:List α}{i:Int}{u:α}{cs:List PV} (ht:nJ P t=some (e,sz,by_)) (hx:isl (ev x) sz row xs) (hy:ev y=.c (.int k i)) (hg:nG xs i=some u) (he:row u=cs):Pv P ⟨d,.indexAddr t x y,ty,pos,af,gd⟩ ev σ (.eptr cs 0):=fun K h=>by
 obtain ⟨h0,h1,h2⟩:=aIZ hg
 subst he
 have key:∀ r,(xs.map row)[i.toNat]?=some r→K .none (.eptr r 0) σ:=fun r hr=>by
  rw [cJ,h2] at hr
  simp at hr
  subst hr
  exact h
 rcases hx with hx | ⟨_,hx⟩ <;> (refine .inl ?_;simp only [eL,ht,hx,hy,PV.ls,AV.os]) <;> exact ⟨trivial,h0,by rw [iI];exact h1,key⟩
theorem pE {e:TypeId}{by_:Nat}{l:List (Nat × Nat)}{i:Int}{p:Nat × Nat} (ht:nJ P t=some (e,1,by_)) (hx:ev x=.ptrs l) (hy:ev y=.c (.int k i)) (hg:nG l i=some p):Pv P ⟨d,.indexAddr t x y,ty,pos,af,gd⟩ ev σ (.pptr p):=fun K h=>by
 obtain ⟨h0,h1,h2⟩:=aIZ hg
 (refine .inl ?_;simp only [eL,ht,hx,hy])
 exact ⟨trivial,h0,h1,fun q hq=>by rw [h2] at hq;cases hq;exact h⟩
theorem aAx {s:List UInt8}{i:Int}{u:UInt8} (ht:kF P t=2) (hx:ev x=.c (.str s)) (hy:ev y=.c (.int k i)) (hg:nG s i=some u):Pv P ⟨d,.index t x y,ty,pos,af,gd⟩ ev σ (.c (.int .u8 u.toNat)):=fun K h=>by
 obtain ⟨h0,h1,h2⟩:=aIZ hg
 (refine .inl ?_;simp only [eL,hx,hy])
 exact ⟨ht,h0,h1,fun q hq=>by rw [h2] at hq;cases hq;exact h⟩
theorem xJ {vs:List AV}{i:Nat} (hx:ev x=.tup vs) (hv:vs[i]?=some v):Pv P ⟨d,.extract x i,ty,pos,af,gd⟩ ev σ v:=fun K h=>by (refine .inl ?_;simp only [eL,hx,hv]);exact h
def aDB (places:Nat→Option (Nat × Nat)) (ev:Operand→AV):List AV→List (Nat × Operand)→Option (List AV)
 | cs,[]=>some cs
 | cs,(i,x) :: r=>match places i with
  | some (off,n)=>if (ev x).solid&&(ev x).cells.length==n&&Nat.ble (off+n) cs.length then aDB places ev (cs.take off++((ev x).cells++cs.drop (off+n))) r else .none
  | _=>.none
theorem aKq {places:Nat→Option (Nat × Nat)} (hp:∀ i,pI P t i=places i):∀ (parts:List (Nat × Operand)) (cs us:List AV),aDB places ev cs parts=some us→aFp P t ev cs parts=some us
 | [],cs,us,h=>h
 | (i,x) :: r,cs,us,h=>by
  simp only [aDB] at h
  simp only [aFp,hp i]
  split at h
  ·
   rename_i off n hpl
   rw [hpl]
   simp only
   split at h
   ·
    rename_i hc
    simp only [bZ,oZ,Nat.ble_eq] at hc
    rw [bH ⟨hc.1.1,hc.1.2,hc.2⟩,iU]
    exact aKq hp r _ _ h
   ·
    cases h
  ·
   cases h
theorem fV {parts:Array (Nat × Operand)}{z:List Value}{places:Nat→Option (Nat × Nat)}{cs:List AV} (h6:kF P t=6∧aEr P t=true∧nC P t=some z∧∀ i,pI P t i=places i) (hc:aDB places ev (z.map AV.ofFlat) parts.toList=some cs):Pv P ⟨d,.build t parts,ty,pos,af,gd⟩ ev σ (.agg cs):=fun K h=>by
 (refine .inl ?_;simp only [eL,h6.2.2.1,aKq h6.2.2.2 _ _ _ hc])
 exact ⟨h6.1,h6.2.1,h⟩
theorem iC {places:Nat→Option (Nat × Nat)}{cs:List AV}:aDB places ev cs []=some cs:=rfl
theorem eC {places:Nat→Option (Nat × Nat)}{cs cs' us out:List AV}{i off n:Nat}{v:AV}{r:List (Nat × Operand)} (hp:places i=some (off,n)) (hv:ev x=v) (hs:v.solid=true) (hu:v.cells=us) (hl:(us.length==n&&Nat.ble (off+n) cs.length)=true) (hc:cs.take off++(us++cs.drop (off+n))=cs')
  (t:aDB places ev cs' r=some out):aDB places ev cs ((i,x) :: r)=some out:=by
 simp only [aDB,hp,hv,hs,hu,dZ]
 rw [bH hl,hc]
 exact t
theorem iD {parts:Array (Nat × Operand)}{z:List Value}{places:Nat→Option (Nat × Nat)}{c0 cs:List AV} (h6:kF P t=6∧aEr P t=true∧nC P t=some z∧∀ i,pI P t i=places i) (h0:z.map AV.ofFlat=c0) (hc:aDB places ev c0 parts.toList=some cs):Pv P ⟨d,.build t parts,ty,pos,af,gd⟩ ev σ (.agg cs):=by
 subst h0;exact fV h6 hc
end
end Go.Proofs.YtnigjppddilpcaaGreatDoor.Abs
namespace Go.Proofs.YtnigjppddilpcaaGreatDoor.Abs
open Go
set_option linter.unusedVariables false
set_option linter.unusedSimpArgs false
variable {mo:Bool}
theorem aG8 {a b:Nat} (h:Nat.blt a b=true):a<b:=by rw [Nat.blt_eq] at h;exact h
theorem aG7 {a b:Nat} (h:Nat.ble a b=true):a≤b:=by rw [Nat.ble_eq] at h;exact h
def leP:List AV→List AV→Prop
 | [],[]=>True
 | a :: as,b :: bs=>a.le b∧leP as bs
 | _,_=>False
theorem aDG:∀ {as bs:List AV},leP as bs→AV.leL as bs
 | [],[],_=>.nil
 | a :: as,b :: bs,h=>.cons h.1 (aDG h.2)
 | [],_ :: _,h=>h.elim
 | _ :: _,[],h=>h.elim
def leC:List AV→List PV→Prop
 | [],[]=>True
 | .c p :: as,q :: qs=>p=q∧leC as qs
 | .own _ sz xs :: as,q :: qs=>PV.list sz xs=q∧leC as qs
 | .nil :: as,q :: qs=>(∃ sz,q=.list sz [])∧leC as qs
 | _,_=>False
theorem aI3:∀ {as:List AV}{ps:List PV},leC as ps→AV.leL as (AV.cs ps)
 | [],[],_=>.nil
 | .c p :: as,q :: qs,h=>.cons (by simp only [leC] at h;rw [h.1];exact AV.le_refl _) (aI3 (by simp only [leC] at h;exact h.2))
 | .own t sz xs :: as,q :: qs,h=>.cons (by simp only [leC] at h;rw [← h.1];exact AV.le_own_list _ _ _) (aI3 (by simp only [leC] at h;exact h.2))
 | .nil :: as,q :: qs,h=>.cons (by simp only [leC] at h;obtain ⟨⟨sz,rfl⟩,_⟩:=h;exact AV.le_nil_list sz) (aI3 (by simp only [leC] at h;exact h.2))
 | [],_ :: _,h=>by simp [leC] at h
 | .c _ :: _,[],h=>by simp [leC] at h
 | .own .. :: _,[],h=>by simp [leC] at h
 | .nil :: _,[],h=>by simp [leC] at h
 | .agg _ :: _,_,h=>by simp [leC] at h
 | .tup _ :: _,_,h=>by simp [leC] at h
 | .box .. :: _,_,h=>by simp [leC] at h
 | .eptr .. :: _,_,h=>by simp [leC] at h
 | .ptrs _ :: _,_,h=>by simp [leC] at h
 | .view .. :: _,_,h=>by simp [leC] at h
 | .mrow .. :: _,_,h=>by simp [leC] at h
 | .mptr .. :: _,_,h=>by simp [leC] at h
 | .pptr _ :: _,_,h=>by simp [leC] at h
 | .fn .. :: _,_,h=>by simp [leC] at h
 | .nilptr :: _,_,h=>by simp [leC] at h
 | .any :: _,_,h=>by simp [leC] at h
theorem bQ {x:AV}{as:List AV}{ps:List PV} (hx:x=.agg as) (h:leC as ps):x.le (.agg (AV.cs ps)):=by subst hx;exact AV.le_agg (aI3 h)
theorem aOI {x:AV}{as bs:List AV} (hx:x=.agg as) (h:leP as bs):x.le (.agg bs):=by subst hx;exact AV.le_agg (aDG h)
theorem mR {x:AV}{as bs:List AV} (hx:x=.tup as) (h:leP as bs):x.le (.tup bs):=by subst hx;exact AV.le_tup (aDG h)
theorem aQV {x:AV}{f:FuncId}{as bs:List AV} (hx:x=.fn f as) (h:leP as bs):x.le (.fn f bs):=by
 subst hx
 intro g w v hv
 cases hv with
 | fn _ vs cs h1 h2 =>
  have:=iE.le (aDG h) (show iE g w vs as from ⟨h1,h2⟩)
  exact .fn f vs bs this.1 this.2
theorem aA7 {α:Type}{sz:Nat}{row:α→List PV}:AV.nil.le (.c (PV.ls sz row [])):=AV.le_nil_list sz
theorem aAt {α:Type}{t sz:Nat}{row:α→List PV} (h:Nat.blt 0 sz=true):AV.nil.le (.os t sz row []):=AV.le_nil_own t sz (aG8 h)
theorem aD:leS [] []:=.nil
theorem eG {cs:List AV}{ps:List PV}{σ σ':St} (h:leC cs ps) (t:leS σ σ'):leS (cs :: σ) (AV.cs ps :: σ'):=.cons (aI3 h) t
theorem qI {cs bs:List AV}{σ σ':St} (h:leP cs bs) (t:leS σ σ'):leS (cs :: σ) (bs :: σ'):=.cons (aDG h) t
section
variable {P:Program}{all r:List Oper}{d:Nat}{ty:TypeId}{pos:String}{af:Array Edge}{fr:Fr}{σ:St}{K:Fr→St→Prop}{v:AV}
theorem hO {e:TypeId}{z:List Value}{cs:List AV}{n:Nat}{σ':St} (hz:nC P e=some z) (hc:z.map AV.ofFlat=cs) (hn:σ.length=n) (hσ:σ++[cs]=σ') (h:mO mo P all r ((d,.box n 0) :: fr) σ' K):mO mo P all (⟨some d,.alloc e,ty,pos,af,none⟩ :: r) fr σ K:=by
 refine vB ?_
 refine yL rfl ?_
 subst hc hn hσ
 (refine .inl ?_;simp only [eL,hz])
 exact h
theorem jK {e:TypeId}{x:Operand}{cs:List AV}{n:Nat}{σ':St} (hx:fr.ev x=v) (hs:v.solid=true) (hc:v.cells=cs) (hn:σ.length=n) (hσ:σ++[cs]=σ') (h:mO mo P all r ((d,.box n 0) :: fr) σ' K):mO mo P all (⟨some d,.box e x,ty,pos,af,none⟩ :: r) fr σ K:=by
 refine vB ?_
 refine yL rfl ?_
 subst hx hc hn hσ
 (refine .inl ?_;simp only [eL])
 exact ⟨hs,h⟩
theorem bM {dst:Option Tmp}{t:TypeId}{x y:Operand}{ag:Bool}{n id off:Nat}{cs us:List AV}{σ':St} (hd:dst=none) (ht:oV P t=some (ag,n)) (hx:fr.ev x=.box id off) (hy:fr.ev y=v) (hs:v.solid=true) (hu:v.cells=us) (hn:us.length=n) (hc:σ[id]?=some cs) (hle:Nat.ble (off+n) cs.length=true)
  (hσ:σ.set id (cs.take off++(us++cs.drop (off+n)))=σ') (h:mO mo P all r fr σ' K):mO mo P all (⟨dst,.store t x y,ty,pos,af,none⟩ :: r) fr σ K:=by
 subst hd
 refine vB ?_
 refine yL rfl ?_
 subst hy hu
 (refine .inl ?_;simp only [eL,ht,hx,hc])
 refine ⟨hs,hn,aG7 hle,?_⟩
 rw [iU,hσ]
 exact h
theorem uL {α:Type}{t e:TypeId}{len sz by_:Nat}{parts:Array (Nat × Operand)}{rows:List (List PV)}{row:α→List PV}{xs:List α}{σ':St} (hs:List Nat) (ht:nJ P t=some (e,sz,by_)) (hl:parts.toList.length=len) (hm:Nat.ble (len*sz) 1000000=true) (hr:aEc hs sz fr.ev 0 parts.toList=some rows) (hx:rows=xs.map row)
  (hf:fr.dem (vS (some d))=fr) (hσ:σ.dem (vS (some d))=σ') (h:mO mo P all r ((d,.os (16*d) sz row xs) :: fr) σ' K):mO mo P all (⟨some d,.buildSlice t len parts,ty,pos,af,none⟩ :: r) fr σ K:=by
 refine vB ?_
 refine yL rfl ?_
 subst hσ hx
 (refine .inl ?_;simp only [eL,ht])
 refine ⟨hl,aG7 hm,hs,?_⟩
 simp only [hr,Fr.demo,hf]
 exact h
theorem aN1 {t e:TypeId}{len by_:Nat}{parts:Array (Nat × Operand)}{l:List (Nat × Nat)} (ht:nJ P t=some (e,1,by_)) (hl:parts.toList.length=len) (hm:Nat.ble (len*1) 1000000=true) (h0:aEc [] 1 fr.ev 0 parts.toList=none) (hr:aGf fr.ev 0 parts.toList=some l)
  (h:mO mo P all r ((d,.ptrs l) :: fr) σ K):mO mo P all (⟨some d,.buildSlice t len parts,ty,pos,af,none⟩ :: r) fr σ K:=by
 refine vB ?_
 refine yL rfl ?_
 (refine .inl ?_;simp only [eL,ht])
 refine ⟨hl,aG7 hm,[],?_⟩
 simp only [h0,hr]
 exact ⟨trivial,h⟩
def aPt (d t0:Nat):Nat→Bool:=fun t=>vS (some d) t||t==t0
theorem aRL {α:Type}{o:Oper}{t tx e:TypeId}{sz by_:Nat}{s x:AV}{row:α→List PV}{xs ys:List α}{f:Nat→Bool}{K:Option (Nat→Bool)→AV→St→Prop} (ht:nJ P t=some (e,sz,by_)) (hb:Nat.blt 0 by_=true) (htx:kF P tx=3)
  (hs:(s=.nil∧xs=[]∧f=vS o.dst)∨∃ t0,s=.os t0 sz row xs∧f=fun t=>vS o.dst t||t==t0) (hx:isl x sz row ys∨(x=.nil∧ys=[])) (hy:∀ u,(row u).length=sz) (hm:(xs.length+ys.length)*by_≤140737488355328)
  (h:K (some f) (.os (yD o.dst) sz row (xs++ys)) (σ.dem f)):xB P o t tx s x σ K:=by
 have hrow:∀ y∈ys.map row,y.length=sz:=by simp [hy]
 have hb':=aG8 hb
 have e1:AV.os (yD o.dst) sz row (xs++ys)=.own (yD o.dst) sz (xs.map row++ys.map row):=by simp [AV.os]
 rw [e1] at h
 rcases hs with ⟨rfl,rfl,rfl⟩ | ⟨t0,rfl,rfl⟩
 ·
  rcases hx with (rfl | ⟨t1,rfl⟩) | ⟨rfl,rfl⟩
  ·
   simp only [xB,ht,PV.ls];exact ⟨hb',trivial,htx,hrow,by simpa using hm,h⟩
  ·
   simp only [xB,ht,AV.os];exact ⟨hb',trivial,htx,hrow,by simpa using hm,h⟩
  ·
   simp only [xB,ht];exact ⟨hb',htx,by simp,h⟩
 ·
  rcases hx with (rfl | ⟨t1,rfl⟩) | ⟨rfl,rfl⟩
  ·
   simp only [xB,ht,PV.ls,AV.os];exact ⟨hb',trivial,trivial,htx,hrow,by simpa using hm,h⟩
  ·
   simp only [xB,ht,AV.os];exact ⟨hb',trivial,trivial,htx,hrow,by simpa using hm,h⟩
  ·
   simp only [xB,ht,AV.os];exact ⟨hb',trivial,htx,by simpa using hm,by simpa using h⟩
theorem aCt {α:Type}{s x:Operand}{t tx e:TypeId}{sz by_ t0:Nat}{row:α→List PV}{xs ys zs:List α} (ht:nJ P t=some (e,sz,by_)) (hb:Nat.blt 0 by_=true) (htx:kF P tx=3) (hs:fr.ev s=.os t0 sz row xs) (hx:isl (fr.ev x) sz row ys) (hy:∀ u,(row u).length=sz) (hz:app by_ xs ys=some zs)
  (h:mO mo P all r ((d,.os (16*d) sz row zs) :: fr.dem (aPt d t0)) (σ.dem (aPt d t0)) K):mO mo P all (⟨some d,.call { callee:=.builtin .append,args:=#[s,x],argTypes:=#[t,tx] },ty,pos,af,none⟩ :: r) fr σ K:=by
 obtain ⟨hm,rfl⟩:=aIJ hz
 refine vB ?_
 refine yL rfl ?_
 (refine .inl ?_;simp only [eL])
 exact aRL ht hb htx (.inr ⟨t0,hs,rfl⟩) (.inl hx) hy hm h
theorem aTq {s x:Operand}{t tx e:TypeId}{by_ t0:Nat}{xs ys zs:List UInt8} (ht:nJ P t=some (e,1,by_)) (hb:Nat.blt 0 by_=true) (htx:kF P tx=2) (hs:fr.ev s=.os t0 1 iT xs) (hx:fr.ev x=.c (.str ys)) (hz:app by_ xs ys=some zs)
  (h:mO mo P all r ((d,.os (16*d) 1 iT zs) :: fr.dem (aPt d t0)) (σ.dem (aPt d t0)) K):mO mo P all (⟨some d,.call { callee:=.builtin .append,args:=#[s,x],argTypes:=#[t,tx] },ty,pos,af,none⟩ :: r) fr σ K:=by
 obtain ⟨hm,rfl⟩:=aIJ hz
 refine vB ?_
 refine yL rfl ?_
 have e1:AV.os (yD (some d)) 1 iT (xs++ys)=.own (yD (some d)) 1 (xs.map iT++ys.map iT):=by simp [AV.os]
 have h':mO mo P all r ((d,AV.os (yD (some d)) 1 iT (xs++ys)) :: fr.dem (aPt d t0)) (σ.dem (aPt d t0)) K:=h
 rw [e1] at h'
 (refine .inl ?_;simp only [eL,xB,ht,hs,hx,AV.os])
 exact ⟨aG8 hb,trivial,trivial,htx,by simpa using hm,h'⟩
theorem cP {fo:Operand}{args:Array Operand}{ts:Array TypeId}{f:FuncId}{caps as:List AV}{σc σr σ':St}{rv:AV} (ids:List Nat) (hf:fr.ev fo=.fn f caps) (hc:cQ P f as σc rv σr) (hnd:decide ids.Nodup=true) (hlt:(ids.all fun i=>Nat.blt i σ.length)=true)
  (ha:leP (AV.lowL ids (args.toList.map fr.ev++caps)) as) (hs:leS (σ.sub ids) σc) (hfr:(fr.dem fun t=>t / 16==d)=fr) (hv:rv.lift ids σ.length d=v) (hσ:σ.after ids d σr=σ') (h:mO mo P all r ((d,v) :: fr) σ' K) :
  mO mo P all (⟨some d,.call { callee:=.value fo,args:=args,argTypes:=ts },ty,pos,af,none⟩ :: r) fr σ K:=by
 refine vB ?_
 unfold aop
 simp only [hf,aHJ]
 refine ⟨d,ids,[],as,σc,rv,σr,gR hnd,.nil,fun i hi=>aG8 (cR.1 hlt i hi),aDG ha,hs,hc,?_⟩
 simp only [eT,aIR,hfr,hv,hσ]
 exact h
theorem aCX {fo:Operand}{args:Array Operand}{ts:Array TypeId}{f:FuncId}{caps as:List AV}{σc σr σ':St}{rv:AV}{fr1:Fr} (k:Nat) (ids lt:List Nat) (hf:fr.ev fo=.fn f caps) (hc:cQ P f as σc rv σr) (hnd:decide ids.Nodup=true) (hltn:decide lt.Nodup=true) (hlt:(ids.all fun i=>Nat.blt i σ.length)=true)
  (ha:leP (AV.lowTL lt ids (args.toList.map fr.ev++caps)) as) (hs:leS (σ.sub ids lt) σc) (hfr:(fr.dem (aFh lt k))=fr1) (hv:rv.lift ids σ.length k=v) (hσ:σ.after ids k σr lt=σ') (h:mO mo P all r ((d,v) :: fr1) σ' K) :
  mO mo P all (⟨some d,.call { callee:=.value fo,args:=args,argTypes:=ts },ty,pos,af,none⟩ :: r) fr σ K:=by
 refine vB ?_
 unfold aop
 simp only [hf,aHJ]
 refine ⟨k,ids,lt,as,σc,rv,σr,gR hnd,gR hltn,fun i hi=>aG8 (cR.1 hlt i hi),aDG ha,hs,hc,?_⟩
 simp only [eT,hfr,hv,hσ]
 exact h
theorem xF {dst:Option Tmp}{gd:Option (Nat × Bool)}{fo:Operand}{args:Array Operand}{ts:Array TypeId}{f:FuncId}{caps as:List AV}{rv:AV} (hf:fr.ev fo=.fn f caps) (hc:cQ P f as [] rv []) (ha:leP (AV.lowL [] (args.toList.map fr.ev++caps)) as) (hv:rv.low []=v) :
  Qv P ⟨dst,.call { callee:=.value fo,args:=args,argTypes:=ts },ty,pos,af,gd⟩ fr σ v:=fun K hk=>by
 unfold aPf
 simp only [hf]
 exact ⟨as,rv,aDG ha,hc,by rw [hv];exact hk⟩
end
section
variable {P:Program}{V:List Nat}{k0:Nat}{Q:Exit→Fr→St→Prop}{fr:Fr}{σ:St}{K:Fr→St→Prop}
theorem dM {all:List Oper}{fr':Fr} (hp:prune V fr=fr') (h:Q .normal fr' σ):mO mo P all [] fr σ fun fr σ=>hold (Q .normal (prune V fr) σ):=by
 subst hp;exact h
theorem mA (h:K fr σ):aET K Q .normal fr σ:=h
theorem aP (h:Q .ret fr σ):aET K Q .ret fr σ:=h
theorem cY {id:Nat} (h:Q (.exit id) fr σ):aET K Q (.exit id) fr σ:=h
theorem cW {id:Nat} (h:Q .normal fr σ):aQq id Q .normal fr σ:=h
theorem bO {id:Nat} (h:Q .ret fr σ):aQq id Q .ret fr σ:=h
theorem fP {id:Nat} (h:Q .normal fr σ):aQq id Q (.exit id) fr σ:=by simp only [aQq,dP];exact h
theorem kP {c:Operand}{x y:Code} (h:fr.ev c=.c (.bool true)) (h1:yY P V k0 x Q fr σ):yY P V k0 (.cond c x y) Q fr σ:=aLI true h (fun _=>h1) (fun e=>by cases e)
theorem yI {c:Operand}{x y:Code} (h:fr.ev c=.c (.bool false)) (h1:yY P V k0 y Q fr σ):yY P V k0 (.cond c x y) Q fr σ:=aLI false h (fun e=>by cases e) (fun _=>h1)
theorem hH {x y:Code}{J:Type} (C:J→Prop) (F:J→Fr) (G:J→St) (h:yY P V k0 x (aET (fun fr σ=>∃ j,C j∧rG k0 fr σ (F j) (G j)) Q) fr σ) (h2:∀ j,C j→yY P V k0 y Q (F j) (G j)):yY P V k0 (.seq x y) Q fr σ :=
 aUD (fun fr σ=>∃ j,C j∧fr=F j∧σ=G j) (aDi x (fun e fr σ he=>by
  cases e with
  | normal=>obtain ⟨j,h1,h2⟩:=he;exact ⟨F j,G j,h2,j,h1,rfl,rfl⟩
  | _=>exact he) h) (fun fr σ he=>by obtain ⟨j,hj,rfl,rfl⟩:=he;exact h2 j hj)
theorem gV {c:Code}{S R:Type} (body:S→Option (dU S R)) (F:S→Fr) (G:S→St) {s0:S}{r:R} (h0:fK body s0=some r) (hw:rG k0 fr σ (F s0) (G s0))
  (h:∀ s st,body s=some st→(∀ r',st=.out r'→r'=r)→yY P V k0 c (aET (fun fr σ=>∃ s',st=.next s'∧rG k0 fr σ (F s') (G s')) Q) (F s) (G s)):yY P V k0 (.loop c) Q fr σ:=by
 obtain ⟨n,hn⟩:=aDK h0
 refine aTN (fun m fr σ=>∃ s,aCr body m s=some r∧fr=F s∧σ=G s) n hw ⟨s0,hn,rfl,rfl⟩ ?_
 rintro m fr σ ⟨s,hs,rfl,rfl⟩
 cases m with
 | zero=>cases hs
 | succ m =>
  simp only [aCr] at hs
  obtain ⟨st,h1,h2⟩:=iW hs
  refine aDi c (fun e fr σ he=>?_) (h s st h1 (fun r' e=>by subst e;cases h2;rfl))
  cases e with
  | normal=>obtain ⟨s',rfl,hw⟩:=he;exact ⟨m,F s',G s',by omega,hw,s',h2,rfl,rfl⟩
  | _=>exact he
theorem bC (toks:List Nat) (m:Nat) {fr':Fr}{σ':St} (hnd:decide toks.Nodup=true) (hm:Nat.ble k0 m=true) (hf:fr'.inB m=true) (hb:St.inB m ((σ.retok toks).take m)=true) (h:Fr.below (fr.retok toks) fr') (hs:leS ((σ.retok toks).take m) σ'):rG k0 fr σ fr' σ' :=
 aLS toks (gR hnd) m h (aG7 hm) hf hs hb
theorem bI {A:List AV→Prop} (h:A []):pW P fr σ [] A:=h
theorem bS {t:Nat}{v:AV}{rs:List ResultVar}{A:List AV→Prop} (hv:fr.get t=v) (h:pW P fr σ rs fun vs=>A (v :: vs)):pW P fr σ (.tmp t :: rs) A:=by
 simp only [pW,hv];exact h
theorem dY {a id off n:Nat}{t:TypeId}{cs us:List AV}{rs:List ResultVar}{A:List AV→Prop} (ht:oV P t=some (true,n)) (ha:fr.get a=.box id off) (hs:σ[id]?=some cs) (hn:Nat.ble (off+n) cs.length=true) (hc:(cs.drop off).take n=us) (h:pW P fr σ rs fun vs=>A (.agg us :: vs)):pW P fr σ (.cell a t :: rs) A:=by
 simp only [pW,ht,ha,aBy,hs];subst hc;exact ⟨aG7 hn,h⟩
theorem bJ {rs rs':List ResultVar}{r:AV}{σr:St} (hrs:rs=rs') (h:pW P fr σ rs' fun vs=>Fin k0 (aMW vs) σ r σr):aTg P rs k0 r σr .ret fr σ:=by subst hrs;exact h
theorem aIQ {rs rs':List ResultVar}{r:AV}{σr:St} (hrs:rs=rs') (h:pW P fr σ rs' fun vs=>Fin k0 (aMW vs) σ r σr):aTg P rs k0 r σr .normal fr σ:=by subst hrs;exact h
theorem aN {rv r:AV}{σr:St} (toks:List Nat) (hnd:decide toks.Nodup=true) (hin:(rv.retok toks).inB k0=true) (hb:St.inB k0 (St.dem aCf (σ.take k0))=true) (hr:(rv.retok toks).le r) (hσ:leS (St.dem aCf (σ.take k0)) σr):Fin k0 rv σ r σr :=
 aQF toks (gR hnd) hin (aOG rfl hb) hr hσ
theorem aOH {rv r:AV}{σr:St} (toks:List Nat) (hnd:decide toks.Nodup=true) (hin:rv.inB k0=true) (hb:St.inB k0 (σ.take k0)=true) (hr:(rv.retok toks).le r) (hσ:leS (St.retok toks (σ.take k0)) σr):Fin k0 rv σ r σr:=by
 intro c g w v hk hi hv
 have hf:RFr g w #[v] [(0,rv)]:=fun d=>by
  simp only [Fr.get]
  split
  ·
   rename_i e;subst e;exact hv
  ·
   exact .any
 have w1:rG k0 [(0,rv)] σ [(0,rv)] (σ.take k0):=rG.take (iV _) (fun d=>by
  simp only [Fr.get]
  split
  ·
   exact hin
  ·
   rfl) (fun i cs hi hcs=>St.inB_get hb i cs (by rw [eY hi];exact hcs))
 obtain ⟨g1,hi1,hf1⟩:=w1 c g w #[v] hk hi hf
 obtain ⟨g2,hi2,hf2⟩:=rG.retok (k0:=k0) (fr:=[(0,rv)]) (σ:=σ.take k0) toks (gR hnd) c g1 w #[v] hk hi1 hf1
 obtain ⟨g3,hi3,hf3⟩:=rG.cells (k0:=k0) (fr:=Fr.retok toks [(0,rv)]) hσ c g2 w #[v] hk hi2 hf2
 exact ⟨g3,hi3,hr _ _ _ (hf3 0)⟩
theorem aOF {j off:Nat}{cs0:List AV}{rv:AV}{σr:St} (hv:rv=.box j off) (hj:Nat.ble k0 j=true) (hcs:σ[j]?=some cs0) (hcin:AV.inB.inBL k0 (AV.demL aCf cs0)=true) (hb:St.inB k0 (St.dem aCf (σ.take k0))=true) (hσ:leS (St.dem aCf (σ.take k0)++[AV.demL aCf cs0]) σr):Fin k0 rv σ (.box k0 off) σr:=by
 subst hv
 exact aR0 (aG7 hj) hcs hcin (aOG rfl hb) hσ
end
theorem fL {τ κ:Type}{t y:τ}{x:Fl τ κ}{f:κ→Option τ} (h:some (Fl.done t)=some x) (h2:x.next f=some y):some t=some y:=by cases h;exact h2
theorem lV {τ κ:Type}{j:κ}{y:τ}{x:Fl τ κ}{f:κ→Option τ} (h:x=Fl.go j) (h2:x.next f=some y):f j=some y:=by subst h;exact h2
theorem eR {σ ρ:Type}{r r':ρ}{st:dU σ ρ} (h:some (dU.out r')=some st) (h2:∀ r',st=.out r'→r'=r):some r'=some r:=by
 rw [h2 r' (hS h).symm]

/- Tokens renamed: what a loop needs whose slices grow. From a law's data to plain values. A law's row: its arguments, and what is left behind. The printed walks' steps: each operation's rule, its outcome told in typed lists. The printed walks' steps: operations that grow memory, calls, ways that meet, loops, hand-backs. -/
import Derived.Test.YtnigjppddilpcaaGreatDoorAbs19
import Derived.ChangeShapes
import Derived.ChangeSlices
import Derived.ChangeArms
import Derived.ChangeOld
import Derived.DataReads
import Derived.WideShapes
import Derived.Below
import Derived.Test.YtnigjppddilpcaaGreatDoorPk1
namespace Go.Proofs.YtnigjppddilpcaaGreatDoor.Abs
open Go
set_option linter.unusedVariables false
set_option linter.unusedSimpArgs false
variable {mo:Bool}
def Fr.retok (toks:List Nat):Fr→Fr
 | []=>[]
 | (i,a) :: r=>(i,a.retok toks) :: Fr.retok toks r
def St.retok (toks:List Nat):St→St
 | []=>[]
 | cs :: r=>AV.retokL toks cs :: St.retok toks r
theorem St.retok_eq (toks:List Nat) (σ:St):σ.retok toks=σ.map (AV.retokL toks):=by
 induction σ with
 | nil=>rfl
 | cons a l ih=>simp [St.retok,ih]
theorem Fr.get_retok (toks:List Nat) (fr:Fr) (d:Nat):(fr.retok toks).get d=(fr.get d).retok toks:=by
 induction fr with
 | nil=>rfl
 | cons x r ih =>
  obtain ⟨i,a⟩:=x
  simp only [Fr.retok,Fr.get]
  split
  ·
   rfl
  ·
   exact ih
theorem pX.retok {k0:Nat}{fr:Fr}{σ:St} (toks:List Nat) (hnd:toks.Nodup):pX k0 fr σ (fr.retok toks) (σ.retok toks):=by
 intro c g w tmps hk hi hf
 refine ⟨⟨g.I,g.β,fun j=>(toks[j]?).bind g.τ⟩,⟨hi.os,hi.tape,hi.output,hi.size,hi.old,hi.Ile,hi.Iold,hi.Ilt,hi.βpre,hi.βnew,hi.βnd,?_,hi.βI,hi.βlt,fun t b ht=>?_,fun t t' b h1 h2=>?_,fun id cs b hs' hb=>?_,hi.cell0,hi.glo⟩,fun d=>?_⟩
 ·
  rw [St.retok_eq,gG];exact hi.βlen
 ·
  change (toks[t]?).bind g.τ=some b at ht
  cases htt:toks[t]? with
  | none=>simp [htt] at ht
  | some s =>
   simp only [htt,aA] at ht
   exact hi.τnew s b ht
 ·
  change (toks[t]?).bind g.τ=some b at h1
  change (toks[t']?).bind g.τ=some b at h2
  cases e1:toks[t]? with
  | none=>simp [e1] at h1
  | some s =>
   cases e2:toks[t']? with
   | none=>simp [e2] at h2
   | some s' =>
    simp only [e1,e2,aA] at h1 h2
    have:=hi.τinj s s' b h1 h2
    subst this
    exact tV hnd e1 e2
 ·
  rw [St.retok_eq,bY,bV] at hs'
  obtain ⟨cs0,hcs0,rfl⟩:=hs'
  obtain ⟨cur,e,hh,hc⟩:=hi.store id cs0 b hcs0 hb
  refine ⟨cur,e,hh,by simpa [AV.retokL_eq] using hc.1,fun i v a hv ha=>?_⟩
  simp only [AV.retokL_eq,bY,bV] at ha
  obtain ⟨a,ha,rfl⟩:=ha
  exact (hc.2 i v a hv ha).retok toks
 ·
  rw [Fr.get_retok];exact (hf d).retok toks
theorem aME {k0:Nat} (toks:List Nat) (hnd:toks.Nodup) (m:Nat) {fr fr':Fr}{σ σ':St} (h:Fr.below (fr.retok toks) fr') (hm:k0≤m) (hf:fr'.inB m=true) (hs:leS ((σ.retok toks).take m) σ') (hb:St.inB m ((σ.retok toks).take m)=true):pX k0 fr σ fr' σ' :=
 (pX.retok toks hnd).trans (aSR m h hm hf hs hb)
section
variable {P:Program}{ops r:List Oper}{d:Option Tmp}{op:Op}{ty:TypeId}{pos:String}{af:Array Edge}{j:Nat}{fr:Fr}{σ:St}{K:Fr→St→Prop}{Kq:Fr→Prop}
theorem tB (h:aop P ⟨d,op,ty,pos,af,none⟩ fr σ fun fr σ=>lS mo P ops r fr σ K):lS mo P ops (⟨d,op,ty,pos,af,none⟩ :: r) fr σ K:=aLP h
end
end Go.Proofs.YtnigjppddilpcaaGreatDoor.Abs
namespace Go.Proofs.YtnigjppddilpcaaGreatDoor.Abs
open Go
set_option linter.unusedVariables false
set_option linter.unusedSimpArgs false
def aIV (S:TypeId→List PV→Prop):List TypeId→List PV→Prop
 | [],ps=>ps=[]
 | t :: ts,ps=>∃ p q,ps=p++q∧S t p∧aIV S ts q
def oB (P:Program):Nat→TypeId→List PV→Prop
 | 0,_,_=>False
 | n+1,t,ps=>match P.underlying t with
  | some .bool=>∃ b,ps=[.bool b]
  | some (.int k)=>∃ x,ps=[.int k x]∧(Lit.int k x).wf=true
  | some .string=>∃ s:List UInt8,ps=[.str s]∧s.length≤140737488351232
  | some (.slice e)=>∃ xs,ps=[.list (P.cellsOf e) xs]∧(∀ x∈xs,oB P n e x)∧xs.length≤9223372036854775807∧xs.length*P.bytesOf e≤140737488351232
  | some (.struct fs)=>aIV (oB P n) (fs.toList.map (·.type)) ps
  | _=>False
def aKe (P:Program):Nat→List Field→Option Nat
 | o,[]=>some o
 | o,f :: r=>if f.offset=o then aKe P (o+P.cellsOf f.type) r else none
def aL7 (P:Program) (L:List TypeId):Bool:=L.all fun t=>match P.underlying t with
 | some .bool=>true
 | some (.int _)=>true
 | some .string=>true
 | some (.slice e)=>L.contains e&&decide (0<P.cellsOf e)
 | some (.struct fs)=>fs.toList.all (fun f=>L.contains f.type)&&aKe P 0 fs.toList==some (P.cellsOf t)
 | _=>false
def old (W:World):Nat→Nat→Prop:=fun b _=>b<W.heap.size
def RVs (W:World) (cs:List Value) (ps:List PV):Prop:=ps.length=cs.length∧∀ (i:Nat) v p,cs[i]?=some v→ps[i]?=some p→RV (old W) W v p
theorem RVs.one {W:World}{v:Value}{p:PV} (h:RV (old W) W v p):RVs W [v] [p]:=⟨rfl,fun i v' p' h1 h2=>by cases i with
 | zero=>simp at h1 h2;subst h1;subst h2;exact h
 | succ i=>simp at h1⟩
theorem RVs.app {W:World}{cs cs':List Value}{ps ps':List PV} (h:RVs W cs ps) (h':RVs W cs' ps'):RVs W (cs++cs') (ps++ps'):=by
 refine ⟨by simp [h.1,h'.1],fun i v p h1 h2=>?_⟩
 by_cases hi:i<cs.length
 ·
  rw [cQ hi] at h1
  rw [cQ (by rw [h.1];exact hi)] at h2
  exact h.2 i v p h1 h2
 ·
  rw [dL (by omega)] at h1
  rw [dL (by rw [h.1];omega),h.1] at h2
  exact h'.2 _ v p h1 h2
theorem aIg {α:Type}{R:Nat→α→Prop}:∀ (n:Nat),(∀ i,i<n→∃ x,R i x)→∃ xs:List α,xs.length=n∧∀ (i:Nat) x,xs[i]?=some x→R i x
 | 0,_=>⟨[],rfl,fun i x h=>by simp at h⟩
 | n+1,h=>by
  obtain ⟨xs,hl,hx⟩:=aIg n (fun i hi=>h i (by omega))
  obtain ⟨y,hy⟩:=h n (by omega)
  refine ⟨xs++[y],by simp [hl],fun i x hi=>?_⟩
  by_cases hin:i<n
  ·
   rw [cQ (by omega)] at hi
   exact hx i x hi
  ·
   rw [dL (by omega)] at hi
   have:i=n:=by
    have:=(bR.1 hi).1
    simp at this;omega
   subst this
   simp [hl] at hi
   subst hi
   exact hy
theorem aE3 (b o n:Nat):(⟨b,o,none⟩:Addr).add n=⟨b,o+n,none⟩:=by
 unfold Addr.add
 split
 ·
  rename_i h;subst h;rfl
 ·
  rfl
theorem aQC {W:World}{a:Addr}{u:Value} (h:W.cell? a=some u):a.spot=none∧a.block<W.heap.size:=by
 unfold World.cell? at h
 split at h
 ·
  rename_i c e y hb
  split at h
  ·
   cases h
  ·
   rename_i hs
   exact ⟨by simpa using hs,(kF.1 hb).1⟩
 ·
  cases h
theorem aIt {H:Type}{P:Program}{e:TypeId}{y:Nat}:∀ {l:List (DataW H)}{d:DataW H},d∈l→y∈d.weights P e→y∈DataW.weightsAll P e l
 | [],d,h,_=>by simp at h
 | d' :: r,d,h,hy=>by
  simp only [DataW.weightsAll,gV]
  rcases eT.1 h with rfl | h
  ·
   exact .inl hy
  ·
   exact .inr (aIt h hy)
theorem aDZ {H:Type}{P:Program}{y:Nat}:∀ {ts:List TypeId}{ds:List (DataW H)}{i:Nat}{t:TypeId}{d:DataW H},ts[i]?=some t→ds[i]?=some d→y∈d.weights P t→y∈DataW.weightsEach P ts ds
 | [],ds,i,t,d,h,_,_=>by simp at h
 | t' :: ts,[],i,t,d,_,h,_=>by simp at h
 | t' :: ts,d' :: ds,0,t,d,h1,h2,hy=>by
  simp only [List.getElem?_cons_zero,dB] at h1 h2
  subst h1 h2
  simp only [DataW.weightsEach,gV]
  exact .inl hy
 | t' :: ts,d' :: ds,i+1,t,d,h1,h2,hy=>by
  simp only [oH] at h1 h2
  simp only [DataW.weightsEach,gV]
  exact .inr (aDZ h1 h2 hy)
theorem aPv {H:Type}{P:Program}{ts:List TypeId}{ds:List (DataW H)} (h:(DataW.weightsEach P ts ds).all (·≤reachBytes)=true) (i:Nat) {t:TypeId}{d:DataW H} (h1:ts[i]?=some t) (h2:ds[i]?=some d) :
  ∀ y∈d.weights P t,y≤140737488351232:=fun y hy=>by
 have:=cI.1 h y (aDZ h1 h2 hy)
 simp only [bU] at this
 exact this
open Go RowKit
def aVn (W:World):G:=⟨old W,[],fun _=>none⟩
theorem aQL {P:Program}{f:FuncId}{args:List AV}{W:World}{vs:Array Value} (hc:cR P f args [] (.c (.bool true)) []) (hv:gB (aVn W) W vs args) (hg:Glo (old W) W) :
  Calls P f vs W fun e w'=>e=.returned (.bool true)∧Below W.heap.size W w':=by
 have h:=hc.2 W (old W) [] (fun _=>none) vs (fun b o hb=>hb) (by simp) (by simp) (by simp) (by simp) (by simp) rfl (by simp) hv hg
 refine h.mono fun e w' he=>?_
 obtain ⟨v,g',rfl,hi,hr⟩:=he
 obtain ⟨⟩ | _:=hr
 rename_i h
 cases h
 exact ⟨rfl,hi.os,hi.tape,hi.output,hi.size,fun k hk=>hi.old k hk (by simp) (fun h=>by obtain ⟨t,h⟩:=h;cases h)⟩
theorem aO8 {g:G}{w:World}:gB g w #[] []:=⟨rfl,fun i v a h=>by simp at h⟩
theorem aNG {g:G}{w:World}{v:Value}{a:AV}{vs:List Value}{as:List AV} (h:nA g w v a) (t:gB g w vs.toArray as):gB g w (v :: vs).toArray (a :: as):=by
 refine ⟨by simpa using t.1,fun i u b hu hb=>?_⟩
 cases i with
 | zero=>simp at hu hb;subst hu;subst hb;exact h
 | succ i=>exact t.2 i u b (by simpa using hu) (by simpa using hb)
variable {mo:Bool}
def PV.ls {α:Type} (sz:Nat) (row:α→List PV) (xs:List α):PV:=.list sz (xs.map row)
def AV.os {α:Type} (t sz:Nat) (row:α→List PV) (xs:List α):AV:=.own t sz (xs.map row)
abbrev aI {k:IntKind}{n:Int}:AV:=.c (.int k n)
abbrev aB {b:Bool}:AV:=.c (.bool b)
abbrev aS {s:List UInt8}:AV:=.c (.str s)
abbrev aL {α:Type}{sz:Nat}{row:α→List PV}{xs:List α}:AV:=.c (PV.ls sz row xs)
abbrev aO {α:Type}{t sz:Nat}{row:α→List PV}{xs:List α}:AV:=AV.os t sz row xs
def AV.cs (l:List PV):List AV:=l.map .c
def gv (c:Bool) (v:AV):AV:=if c then v else .tup []
theorem gx {c:Bool}{x v:AV} (h:x=gv c v) (hc:c=true):x=v:=by rw [h,gv,bB hc]
def isl {α:Type} (a:AV) (sz:Nat) (row:α→List PV) (xs:List α):Prop:=a=.c (PV.ls sz row xs)∨∃ t,a=.os t sz row xs
theorem eD {α:Type}{a:AV}{sz:Nat}{row:α→List PV}{xs:List α} (h:a=.c (PV.ls sz row xs)):isl a sz row xs:=.inl h
theorem rQ {α:Type}{a:AV}{t sz:Nat}{row:α→List PV}{xs:List α} (h:a=.os t sz row xs):isl a sz row xs:=.inr ⟨t,h⟩
def Pv (P:Program) (o:Oper) (ev:Operand→AV) (σ:St) (v:AV):Prop:=∀ K:Option (Nat→Bool)→AV→St→Prop,K .none v σ→aEm P o ev σ K
def aBR (o:Oper):Bool:=match o.op with | .call { callee:=.value _,.. }=>false | _=>(aCa o).isNone
theorem wI {P:Program}{o:Oper}{fr:Fr}{σ:St}{K:Fr→St→Prop} (hp:aBR o=true) (h:aEm P o fr.ev σ fun dm v σ'=>K ((fr.demo dm).put o.dst v) σ'):aop P o fr σ K:=by
 unfold aBR at hp
 unfold aop
 split at hp
 ·
  cases hp
 ·
  rename_i hno
  split
  ·
   rename_i f args argTypes hop
   exact absurd hop (hno _ _ _)
  ·
   split
   ·
    rename_i hn;rw [hn] at hp;cases hp
   ·
    exact h
theorem aOB {P:Program}{o:Oper}{fr:Fr}{σ:St}{K:AV→Prop} (hp:aBR o=true) (h:aEm P o fr.ev σ (QQ σ K)):aQo P o fr σ K:=by
 unfold aBR at hp
 unfold aQo
 split at hp
 ·
  cases hp
 ·
  rename_i hno
  split
  ·
   rename_i f args argTypes hop
   exact absurd hop (hno _ _ _)
  ·
   exact h
def aFx (ops:List Oper) (j:Nat):Option Nat:=(ops[j]?).bind (·.dst)
theorem aSY {ops:List Oper}{o:Oper}{j dj:Nat}{w b:Bool}{get:Nat→AV}{yes no:Prop} (hg:o.guard=some (j,w)) (hj:aFx ops j=some dj) (hs:get dj=.c (.bool b)) (hy:b=w→yes) (hn:b≠w→no):qW ops o get yes no:=by
 unfold aFx at hj
 obtain ⟨p,hp,hd⟩:=oI.1 hj
 unfold qW
 rw [hg]
 simp only [hp,hd,hs]
 exact ⟨hy,hn⟩
theorem aV2 {ops:List Oper}{o:Oper}{j dj:Nat}{w:Bool}{get:Nat→AV}{yes no:Prop} (hg:o.guard=some (j,w)) (hj:aFx ops j=some dj) (hs:get dj=.tup []) (hn:no):qW ops o get yes no:=by
 unfold aFx at hj
 obtain ⟨p,hp,hd⟩:=oI.1 hj
 unfold qW
 rw [hg]
 simp only [hp,hd,hs]
 exact hn
section
variable {P:Program}{all r:List Oper}{d dj j:Nat}{op:Op}{ty:TypeId}{pos:String}{af:Array Edge}{fr:Fr}{σ:St}{K:Fr→St→Prop}{Kq:Fr→Prop}{v:AV}{b c w:Bool}
theorem aN (hp:aBR ⟨some d,op,ty,pos,af,none⟩=true) (hv:Pv P ⟨some d,op,ty,pos,af,none⟩ fr.ev σ v) (h:lS mo P all r ((d,v) :: fr) σ K):lS mo P all (⟨some d,op,ty,pos,af,none⟩ :: r) fr σ K:=aLP <|
 wI hp (hv _ h)
def Qv (P:Program) (o:Oper) (fr:Fr) (σ:St) (v:AV):Prop:=∀ K:AV→Prop,K v→aQo P o fr σ K
theorem aC3 {o:Oper} (hp:aBR o=true) (hv:Pv P o fr.ev σ v):Qv P o fr σ v:=fun K h=>aOB hp (hv _ ⟨rfl,rfl,h⟩)
def Ov (P:Program) (o:Oper) (fr:Fr) (σ:St) (v:AV):Prop:=∀ K:Fr→St→Prop,K (fr.put o.dst v) σ→aop P o fr σ K
theorem fT {o:Oper} (hp:aBR o=true) (hv:Pv P o fr.ev σ v):Ov P o fr σ v:=fun K h=>wI hp (hv _ h)
theorem uP (hj:aFx all j=some dj) (hs:fr.get dj=.c (.bool b)) (hv:(b==w)=true→Ov P ⟨some d,op,ty,pos,af,some (j,w)⟩ fr σ v) (h:lS mo P all r ((d,gv (b==w) v) :: fr) σ K):lS mo P all (⟨some d,op,ty,pos,af,some (j,w)⟩ :: r) fr σ K:=by
 refine aSY rfl hj hs (fun e=>?_) (fun e=>?_)
 ·
  have e':(b==w)=true:=by simp [e]
  refine aLP (hv e' _ ?_)
  rw [e',gv,bB rfl] at h
  exact h
 ·
  have e':(b==w)=false:=by simpa using e
  rw [e',gv,aY (by simp)] at h
  exact h
theorem fI (hj:aFx all j=some dj) (hs:fr.get dj=gv c (.c (.bool b))) (hv:(c&&(b==w))=true→Ov P ⟨some d,op,ty,pos,af,some (j,w)⟩ fr σ v) (h:lS mo P all r ((d,gv (c&&(b==w)) v) :: fr) σ K):lS mo P all (⟨some d,op,ty,pos,af,some (j,w)⟩ :: r) fr σ K:=by
 cases c with
 | true =>
  rw [dW] at h hv
  exact uP hj (by rw [hs,gv,bB rfl]) hv h
 | false =>
  rw [gv,aY (by simp)] at hs
  rw [Bool.false_and,gv,aY (by simp)] at h
  exact aV2 rfl hj hs h
theorem aLd {dst:Option Tmp}{g g':Option (Nat × Bool)}:aop P ⟨dst,op,ty,pos,af,g⟩ fr σ K=aop P ⟨dst,op,ty,pos,af,g'⟩ fr σ K:=by
 cases op
 case call c=>obtain ⟨callee,args,argTypes⟩:=c;cases callee <;> first | rfl | (rename_i b;cases b <;> rfl)
 case slice t x lo hi mx=>cases mx <;> rfl
 case makeFunc fn f cs=>cases fn <;> rfl
 all_goals rfl
theorem aOx {dst:Option Tmp}{g g':Option (Nat × Bool)}:aOw P ⟨dst,op,ty,pos,af,g⟩ fr σ K=aOw P ⟨dst,op,ty,pos,af,g'⟩ fr σ K:=aLd
theorem aOv {dst:Option Tmp}{g g':Option (Nat × Bool)}:aS0 mo P ⟨dst,op,ty,pos,af,g⟩ fr σ K=aS0 mo P ⟨dst,op,ty,pos,af,g'⟩ fr σ K:=by
 cases mo
 ·
  exact aLd
 ·
  exact aOx
theorem yT {dst:Option Tmp} (hj:aFx all j=some dj) (hs:fr.get dj=.c (.bool b)) (hb:b=w) (h:lS mo P all (⟨dst,op,ty,pos,af,none⟩ :: r) fr σ K):lS mo P all (⟨dst,op,ty,pos,af,some (j,w)⟩ :: r) fr σ K :=
 aSY rfl hj hs (fun _=>by rw [aOv (g':=none)];exact h) (fun e=>absurd hb e)
theorem aL5 {dst:Option Tmp} (hj:aFx all j=some dj) (hs:fr.get dj=.c (.bool b)) (hb:b=!w) (h:lS mo P all r (fr.put dst (.tup [])) σ K):lS mo P all (⟨dst,op,ty,pos,af,some (j,w)⟩ :: r) fr σ K :=
 aSY rfl hj hs (fun e=>by subst e;cases b <;> simp at hb) (fun _=>h)
end
section
variable {P:Program}{d:Option Tmp}{ty:TypeId}{pos:String}{af:Array Edge}{gd:Option (Nat × Bool)}{ev:Operand→AV}{σ:St}{x y z:Operand}{t t2:TypeId}{k k':IntKind}{a b:Int}{v:AV}
theorem bS (hx:ev x=v):Pv P ⟨d,.move x,ty,pos,af,gd⟩ ev σ v:=fun K h=>by (refine .inl ?_;simp only [eG]);rw [hx];exact h
theorem aGN (hx:ev x=v):Pv P ⟨d,.assign x,ty,pos,af,gd⟩ ev σ v:=fun K h=>by (refine .inl ?_;simp only [eG]);rw [hx];exact h
theorem aSi {q p1 p2:Bool} (hx:ev x=.c (.bool q)) (hy:ev y=.c (.bool p1)) (hz:ev z=.c (.bool p2)):Pv P ⟨d,.pick x y z,ty,pos,af,gd⟩ ev σ (.c (.bool (cond q p1 p2))):=fun K h=>by
 (refine .inl ?_;simp only [eG,hx,hy,hz])
 cases q <;> exact h
theorem cB {q p1 p2 c:Bool} (hx:ev x=.c (.bool q)) (hy:ev y=gv c (.c (.bool p1))) (hz:ev z=.c (.bool p2)) (hc:q=true→c=true):Pv P ⟨d,.pick x y z,ty,pos,af,gd⟩ ev σ (.c (.bool (cond q p1 p2))):=by
 cases c with
 | true=>exact aSi hx (by rw [hy,gv,bB rfl]) hz
 | false =>
  cases q with
  | true=>cases hc rfl
  | false =>
   intro K h
   (refine .inl ?_;simp only [eG,hx,hy,hz,gv,aY (show ¬(false=true) by simp)])
   exact ⟨fun e=>(by cases e),fun _=>h⟩
theorem cM {q p1 p2 c:Bool} (hx:ev x=.c (.bool q)) (hy:ev y=.c (.bool p1)) (hz:ev z=gv c (.c (.bool p2))) (hc:q=false→c=true):Pv P ⟨d,.pick x y z,ty,pos,af,gd⟩ ev σ (.c (.bool (cond q p1 p2))):=by
 cases c with
 | true=>exact aSi hx hy (by rw [hz,gv,bB rfl])
 | false =>
  cases q with
  | false=>cases hc rfl
  | true =>
   intro K h
   (refine .inl ?_;simp only [eG,hx,hy,hz,gv,aY (show ¬(false=true) by simp)])
   exact ⟨fun _=>h,fun e=>(by cases e)⟩
theorem aJ {id off n:Nat}{cs:List AV} (ht:kX P t=some (false,n)) (hx:ev x=.box id off) (hs:σ[id]?=some cs) (hc:cs[off]?=some v):Pv P ⟨d,.load t x,ty,pos,af,gd⟩ ev σ v:=fun K h=>by
 (refine .inl ?_;simp only [eG,ht,hx,aBj,hs,hc]);exact h
theorem dN {id off n:Nat}{cs us:List AV} (ht:kX P t=some (true,n)) (hx:ev x=.box id off) (hs:σ[id]?=some cs) (hn:Nat.ble (off+n) cs.length=true) (hc:(cs.drop off).take n=us):Pv P ⟨d,.load t x,ty,pos,af,gd⟩ ev σ (.agg us):=fun K h=>by
 (refine .inl ?_;simp only [eG,ht,hx,aBj,hs]);subst hc;exact ⟨by rw [Nat.ble_eq] at hn;exact hn,h⟩
theorem iO {off n:Nat}{cs:List PV}{p:PV} (ht:kX P t=some (false,n)) (hx:ev x=.eptr cs off) (hc:cs[off]?=some p):Pv P ⟨d,.load t x,ty,pos,af,gd⟩ ev σ (.c p):=fun K h=>by
 (refine .inl ?_;simp only [eG,ht,hx,aBj,hc]);exact h
theorem kT {off n:Nat}{cs us:List PV} (ht:kX P t=some (true,n)) (hx:ev x=.eptr cs off) (hn:Nat.ble (off+n) cs.length=true) (hc:(cs.drop off).take n=us):Pv P ⟨d,.load t x,ty,pos,af,gd⟩ ev σ (.agg (AV.cs us)):=fun K h=>by
 (refine .inl ?_;simp only [eG,ht,hx,aBj]);subst hc;exact ⟨by rw [Nat.ble_eq] at hn;exact hn,h⟩
theorem jV {n:Nat}{p:Nat × Nat} (ht:kX P t=some (false,n)) (hx:ev x=.pptr p):Pv P ⟨d,.load t x,ty,pos,af,gd⟩ ev σ (.box p.1 p.2):=fun K h=>by
 (refine .inl ?_;simp only [eG,ht,hx,aBj]);exact ⟨trivial,h⟩
theorem kJ {i m:Nat} (hx:ev x=.box i m):Pv P ⟨d,.nilCheck x,ty,pos,af,gd⟩ ev σ (.box i m):=fun K h=>by (refine .inl ?_;simp only [eG,hx]);exact h
theorem fY (hx:ev x=.c (.int k a)) (hy:ev y=.c (.int k b)):Pv P ⟨d,.binOp .add t x y t2,ty,pos,af,gd⟩ ev σ (.c (.int k (k.wrap (a+b)))):=fun K h=>by (refine .inl ?_;simp only [eG,zC,hx,hy]);exact ⟨trivial,h⟩
theorem aNA (hx:ev x=.c (.int k a)) (hy:ev y=.c (.int k b)):Pv P ⟨d,.binOp .sub t x y t2,ty,pos,af,gd⟩ ev σ (.c (.int k (k.wrap (a - b)))):=fun K h=>by (refine .inl ?_;simp only [eG,zC,hx,hy]);exact ⟨trivial,h⟩
theorem aPQ (hx:ev x=.c (.int k a)) (hy:ev y=.c (.int k b)):Pv P ⟨d,.binOp .mul t x y t2,ty,pos,af,gd⟩ ev σ (.c (.int k (k.wrap (a*b)))):=fun K h=>by (refine .inl ?_;simp only [eG,zC,hx,hy]);exact ⟨trivial,h⟩
theorem aUj (hx:ev x=.c (.int k a)) (hy:ev y=.c (.int k b)) (h0:b≠0):Pv P ⟨d,.binOp .quo t x y t2,ty,pos,af,gd⟩ ev σ (.c (.int k (k.wrap (a.tdiv b)))):=fun K h=>by (refine .inl ?_;simp only [eG,zC,hx,hy]);exact ⟨trivial,h0,h⟩
theorem aUk (hx:ev x=.c (.int k a)) (hy:ev y=.c (.int k b)) (h0:b≠0):Pv P ⟨d,.binOp .rem t x y t2,ty,pos,af,gd⟩ ev σ (.c (.int k (a.tmod b))):=fun K h=>by (refine .inl ?_;simp only [eG,zC,hx,hy]);exact ⟨trivial,h0,h⟩
theorem cC (hx:ev x=.c (.int k a)) (hy:ev y=.c (.int k b)):Pv P ⟨d,.binOp .eql t x y t2,ty,pos,af,gd⟩ ev σ (.c (.bool (decide (a=b)))):=fun K h=>by (refine .inl ?_;simp only [eG,zC,hx,hy]);exact ⟨trivial,h⟩
theorem iY (hx:ev x=.c (.int k a)) (hy:ev y=.c (.int k b)):Pv P ⟨d,.binOp .neq t x y t2,ty,pos,af,gd⟩ ev σ (.c (.bool (!decide (a=b)))):=fun K h=>by (refine .inl ?_;simp only [eG,zC,hx,hy]);exact ⟨trivial,h⟩
theorem gC (hx:ev x=.c (.int k a)) (hy:ev y=.c (.int k b)):Pv P ⟨d,.binOp .lss t x y t2,ty,pos,af,gd⟩ ev σ (.c (.bool (decide (a<b)))):=fun K h=>by (refine .inl ?_;simp only [eG,zC,hx,hy]);exact ⟨trivial,h⟩
theorem qH (hx:ev x=.c (.int k a)) (hy:ev y=.c (.int k b)):Pv P ⟨d,.binOp .leq t x y t2,ty,pos,af,gd⟩ ev σ (.c (.bool (decide (a≤b)))):=fun K h=>by (refine .inl ?_;simp only [eG,zC,hx,hy]);exact ⟨trivial,h⟩
theorem sP (hx:ev x=.c (.int k a)) (hy:ev y=.c (.int k b)):Pv P ⟨d,.binOp .gtr t x y t2,ty,pos,af,gd⟩ ev σ (.c (.bool (decide (b<a)))):=fun K h=>by (refine .inl ?_;simp only [eG,zC,hx,hy]);exact ⟨trivial,h⟩
theorem qR (hx:ev x=.c (.int k a)) (hy:ev y=.c (.int k b)):Pv P ⟨d,.binOp .geq t x y t2,ty,pos,af,gd⟩ ev σ (.c (.bool (decide (b≤a)))):=fun K h=>by (refine .inl ?_;simp only [eG,zC,hx,hy]);exact ⟨trivial,h⟩
theorem aUi (hx:ev x=.c (.int k a)) (hy:ev y=.c (.int k b)):Pv P ⟨d,.binOp .and t x y t2,ty,pos,af,gd⟩ ev σ (.c (.int k (lR .and k a b))):=fun K h=>by (refine .inl ?_;simp only [eG,zC,hx,hy]);exact ⟨trivial,h⟩
theorem aVt (hx:ev x=.c (.int k a)) (hy:ev y=.c (.int k b)):Pv P ⟨d,.binOp .or t x y t2,ty,pos,af,gd⟩ ev σ (.c (.int k (lR .or k a b))):=fun K h=>by (refine .inl ?_;simp only [eG,zC,hx,hy]);exact ⟨trivial,h⟩
theorem aUn (hx:ev x=.c (.int k a)) (hy:ev y=.c (.int k b)):Pv P ⟨d,.binOp .xor t x y t2,ty,pos,af,gd⟩ ev σ (.c (.int k (lR .xor k a b))):=fun K h=>by (refine .inl ?_;simp only [eG,zC,hx,hy]);exact ⟨trivial,h⟩
theorem aUl (hx:ev x=.c (.int k a)) (hy:ev y=.c (.int k' b)) (h0:0≤b):Pv P ⟨d,.binOp .shl t x y t2,ty,pos,af,gd⟩ ev σ (.c (.int k (k.wrap (a*2 ^ (min b.toNat k.bits))))):=fun K h=>by (refine .inl ?_;simp only [eG,zC,hx,hy]);exact ⟨h0,h⟩
theorem aSk (hx:ev x=.c (.int k a)) (hy:ev y=.c (.int k' b)) (h0:0≤b):Pv P ⟨d,.binOp .shr t x y t2,ty,pos,af,gd⟩ ev σ (.c (.int k (a.fdiv (2 ^ (min b.toNat k.bits))))):=fun K h=>by (refine .inl ?_;simp only [eG,zC,hx,hy]);exact ⟨h0,h⟩
theorem aO6 {s u:List UInt8} (hx:ev x=.c (.str s)) (hy:ev y=.c (.str u)) (h0:s.length+u.length≤9223372036854775807):Pv P ⟨d,.binOp .add t x y t2,ty,pos,af,gd⟩ ev σ (.c (.str (s++u))):=fun K h=>by (refine .inl ?_;simp only [eG,zC,hx,hy]);exact ⟨h0,h⟩
theorem qZ {s u:List UInt8} (hx:ev x=.c (.str s)) (hy:ev y=.c (.str u)):Pv P ⟨d,.binOp .eql t x y t2,ty,pos,af,gd⟩ ev σ (.c (.bool (decide (s=u)))):=fun K h=>by (refine .inl ?_;simp only [eG,zC,hx,hy]);exact h
theorem vK {s u:List UInt8} (hx:ev x=.c (.str s)) (hy:ev y=.c (.str u)):Pv P ⟨d,.binOp .neq t x y t2,ty,pos,af,gd⟩ ev σ (.c (.bool (!decide (s=u)))):=fun K h=>by (refine .inl ?_;simp only [eG,zC,hx,hy]);exact h
theorem aUS {s u:List UInt8} (hx:ev x=.c (.str s)) (hy:ev y=.c (.str u)):Pv P ⟨d,.binOp .gtr t x y t2,ty,pos,af,gd⟩ ev σ (.c (.bool (!(Op.bytesLess s u||decide (s=u))))):=fun K h=>by (refine .inl ?_;simp only [eG,zC,hx,hy]);exact h
theorem aSj {s u:List UInt8} (hx:ev x=.c (.str s)) (hy:ev y=.c (.str u)):Pv P ⟨d,.binOp .geq t x y t2,ty,pos,af,gd⟩ ev σ (.c (.bool (!Op.bytesLess s u))):=fun K h=>by (refine .inl ?_;simp only [eG,zC,hx,hy]);exact h
theorem aO5 {i m:Nat} (ht:jZ P t=5) (hx:ev x=.box i m) (hy:ev y=.nilptr):Pv P ⟨d,.binOp .eql t x y t2,ty,pos,af,gd⟩ ev σ (.c (.bool false)):=fun K h=>by (refine .inl ?_;simp only [eG,zC,hx,hy]);exact ⟨ht,h⟩
theorem fP {p:Bool} (hx:ev x=.c (.bool p)):Pv P ⟨d,.unOp .not t x,ty,pos,af,gd⟩ ev σ (.c (.bool (!p))):=fun K h=>by (refine .inl ?_;simp only [eG,hx]);exact h
theorem aPR (hx:ev x=.c (.int k a)):Pv P ⟨d,.unOp .neg t x,ty,pos,af,gd⟩ ev σ (.c (.int k (k.wrap (0 - a)))):=fun K h=>by (refine .inl ?_;simp only [eG,hx]);exact h
theorem aAZ {kd ks:IntKind} (hs:aCx P t=some ks) (hd:aCx P t2=some kd) (hx:ev x=.c (.int k a)):Pv P ⟨d,.convert t t2 x,ty,pos,af,gd⟩ ev σ (.c (.int kd (kd.wrap a))):=fun K h=>by (refine .inl ?_;simp only [eG,hx,hd,hs]);exact h
theorem aEA {sz:Nat}{xs:List UInt8} (hs:eG.tyBytes P t) (hd:jZ P t2=2) (hx:isl (ev x) sz hF xs):Pv P ⟨d,.convert t t2 x,ty,pos,af,gd⟩ ev σ (.c (.str xs)):=fun K h=>by
 rcases hx with hx | ⟨_,hx⟩ <;> (refine .inl ?_;simp only [eG,hx,PV.ls,AV.os]) <;> exact ⟨hs,hd,xs,rfl,h⟩
theorem aUR {f:FuncId}{first captured:Array Operand}{cs:List AV} (hf:first=#[]) (hc:captured.toList.map ev=cs):Pv P ⟨d,.makeFunc (.func f) first captured,ty,pos,af,gd⟩ ev σ (.fn f cs):=fun K h=>by
 (refine .inl ?_;simp only [eG]);subst hc;exact ⟨hf,h⟩
theorem b_l {n:Nat}{a:AV}{l:Int}{kk:Nat→Nat→Prop} (ha:a=.c (.int k l)) (h0:0≤l∧l≤n) (h:kk l.toNat n):tD (some a) .none n kk:=by subst ha;exact ⟨h0.1,h0.2,h⟩
theorem b_h {n:Nat}{a:AV}{l:Int}{kk:Nat→Nat→Prop} (ha:a=.c (.int k l)) (h0:0≤l∧l≤n) (h:kk 0 l.toNat):tD .none (some a) n kk:=by subst ha;exact ⟨h0.1,h0.2,h⟩
theorem b_b {n:Nat}{a a':AV}{l l':Int}{kk:Nat→Nat→Prop} (ha:a=.c (.int k l)) (ha':a'=.c (.int k' l')) (h0:0≤l∧l≤l'∧l'≤n) (h:kk l.toNat l'.toNat):tD (some a) (some a') n kk:=by subst ha;subst ha';exact ⟨h0.1,h0.2.1,h0.2.2,h⟩
theorem aVu {α:Type}{e:TypeId}{sz by_:Nat}{row:α→List PV}{xs:List α}{l h:Nat}{lo hi:Option Operand} (h7:jZ P t≠7) (ht:lV P t=some (e,sz,by_)) (hx:isl (ev x) sz row xs)
  (hb:∀ kk:Nat→Nat→Prop,kk l h→tD (lo.map ev) (hi.map ev) xs.length kk):Pv P ⟨d,.slice t x lo hi .none,ty,pos,af,gd⟩ ev σ (.c (PV.ls sz row ((xs.take h).drop l))):=fun K hk=>by
 have e1:PV.ls sz row ((xs.take h).drop l)=.list sz (((xs.map row).take h).drop l):=by simp [PV.ls,List.map_take,List.map_drop]
 rw [e1] at hk
 rcases hx with hx | ⟨t0,hx⟩ <;> (refine .inl ?_;simp only [eG,hx,PV.ls,AV.os,aCZ,ht]) <;> exact ⟨h7,trivial,by rw [gG];exact hb _ hk⟩
theorem aUm {s:List UInt8}{l h:Nat}{lo hi:Option Operand} (h7:jZ P t=2) (hx:ev x=.c (.str s))
  (hb:∀ kk:Nat→Nat→Prop,kk l h→tD (lo.map ev) (hi.map ev) s.length kk):Pv P ⟨d,.slice t x lo hi .none,ty,pos,af,gd⟩ ev σ (.c (.str ((s.take h).drop l))):=fun K hk=>by
 (refine .inl ?_;simp only [eG,hx,aCZ])
 exact ⟨by rw [h7];decide,h7,hb _ hk⟩
theorem aUU {α:Type}{e:TypeId}{sz by_:Nat}{row:α→List PV}{xs:List α}{l:Int} (h7:jZ P t≠7) (ht:lV P t=some (e,sz,by_)) (hx:isl (ev x) sz row xs) (hy:ev y=.c (.int k l)) (h0:0≤l∧l≤xs.length):Pv P ⟨d,.slice t x (some y) .none .none,ty,pos,af,gd⟩ ev σ (.c (PV.ls sz row (xs.drop l.toNat))):=by
 have:=aVu (d:=d) (ty:=ty) (pos:=pos) (af:=af) (gd:=gd) (σ:=σ) (l:=l.toNat) (h:=xs.length) (lo:=some y) (hi:=.none) h7 ht hx (fun kk=>b_l hy h0)
 simpa using this
theorem aUT {α:Type}{e:TypeId}{sz by_:Nat}{row:α→List PV}{xs:List α}{l h:Int} (h7:jZ P t≠7) (ht:lV P t=some (e,sz,by_)) (hx:isl (ev x) sz row xs) (hy:ev y=.c (.int k l)) (hz:ev z=.c (.int k' h)) (h0:0≤l∧l≤h∧h≤xs.length):Pv P ⟨d,.slice t x (some y) (some z) .none,ty,pos,af,gd⟩ ev σ (.c (PV.ls sz row ((xs.take h.toNat).drop l.toNat))) :=
 aVu (l:=l.toNat) (h:=h.toNat) (lo:=some y) (hi:=some z) h7 ht hx (fun kk=>b_b hy hz h0)
theorem aPS {s:List UInt8}{l:Int} (h7:jZ P t=2) (hx:ev x=.c (.str s)) (hy:ev y=.c (.int k l)) (h0:0≤l∧l≤s.length):Pv P ⟨d,.slice t x (some y) .none .none,ty,pos,af,gd⟩ ev σ (.c (.str (s.drop l.toNat))):=by
 have:=aUm (P:=P) (d:=d) (ty:=ty) (pos:=pos) (af:=af) (gd:=gd) (σ:=σ) (l:=l.toNat) (h:=s.length) (lo:=some y) (hi:=.none) h7 hx (fun kk=>b_l hy h0)
 simpa using this
theorem aTo {s:List UInt8}{l:Int} (h7:jZ P t=2) (hx:ev x=.c (.str s)) (hy:ev y=.c (.int k l)) (h0:0≤l∧l≤s.length):Pv P ⟨d,.slice t x .none (some y) .none,ty,pos,af,gd⟩ ev σ (.c (.str (s.take l.toNat))):=by
 have:=aUm (P:=P) (d:=d) (ty:=ty) (pos:=pos) (af:=af) (gd:=gd) (σ:=σ) (l:=0) (h:=l.toNat) (lo:=.none) (hi:=some y) h7 hx (fun kk=>b_h hy h0)
 simpa using this
theorem gQ {α:Type}{sz:Nat}{row:α→List PV}{xs:List α} (ht:jZ P t=3) (hx:isl (ev x) sz row xs):Pv P ⟨d,.call { callee:=.builtin .len,args:=#[x],argTypes:=#[t] },ty,pos,af,gd⟩ ev σ (.c (.int .i64 xs.length)):=fun K h=>by
 rcases hx with hx | ⟨_,hx⟩ <;> (refine .inl ?_;simp only [eG,hx,aHm,PV.ls,AV.os,gG]) <;> exact ⟨ht,h⟩
theorem kV {s:List UInt8} (ht:jZ P t=2) (hx:ev x=.c (.str s)):Pv P ⟨d,.call { callee:=.builtin .len,args:=#[x],argTypes:=#[t] },ty,pos,af,gd⟩ ev σ (.c (.int .i64 s.length)):=fun K h=>by (refine .inl ?_;simp only [eG,hx,aHm]);exact ⟨ht,h⟩
theorem aL6 {l:List (Nat × Nat)} (ht:jZ P t=3) (hx:ev x=.ptrs l):Pv P ⟨d,.call { callee:=.builtin .len,args:=#[x],argTypes:=#[t] },ty,pos,af,gd⟩ ev σ (.c (.int .i64 l.length)):=fun K h=>by (refine .inl ?_;simp only [eG,hx,aHm]);exact ⟨ht,h⟩
theorem aVs {ts:Array TypeId} (hx:ev x=.c (.int k a)) (hy:ev y=.c (.int k' b)):Pv P ⟨d,.call { callee:=.builtin .max,args:=#[x,y],argTypes:=ts },ty,pos,af,gd⟩ ev σ (.c (.int k (if b > a then b else a))):=fun K h=>by (refine .inl ?_;simp only [eG,hx,hy]);exact h
theorem bE {f k0 n id off:Nat}{ag:Bool} (ht:eH P t f=some (k0,ag,n)) (hx:ev x=.box id off):Pv P ⟨d,.fieldAddr t x f,ty,pos,af,gd⟩ ev σ (.box id (off+k0)):=fun K h=>by (refine .inl ?_;simp only [eG,ht,hx]);exact h
theorem zF {f k0 n off:Nat}{ag:Bool}{cs:List PV} (ht:eH P t f=some (k0,ag,n)) (hx:ev x=.eptr cs off):Pv P ⟨d,.fieldAddr t x f,ty,pos,af,gd⟩ ev σ (.eptr cs (off+k0)):=fun K h=>by (refine .inl ?_;simp only [eG,ht,hx]);exact h
theorem lT {α:Type}{e:TypeId}{sz by_:Nat}{row:α→List PV}{xs:List α}{i:Int}{u:α}{cs:List PV} (ht:lV P t=some (e,sz,by_)) (hx:isl (ev x) sz row xs) (hy:ev y=.c (.int k i)) (hg:mP xs i=some u) (he:row u=cs):Pv P ⟨d,.indexAddr t x y,ty,pos,af,gd⟩ ev σ (.eptr cs 0):=fun K h=>by
 obtain ⟨h0,h1,h2⟩:=aJC hg
 subst he
 have key:∀ r,(xs.map row)[i.toNat]?=some r→K .none (.eptr r 0) σ:=fun r hr=>by
  rw [bY,h2] at hr
  simp at hr
  subst hr
  exact h
 rcases hx with hx | ⟨_,hx⟩ <;> (refine .inl ?_;simp only [eG,ht,hx,hy,PV.ls,AV.os]) <;> exact ⟨trivial,h0,by rw [gG];exact h1,key⟩
theorem oL {e:TypeId}{by_:Nat}{l:List (Nat × Nat)}{i:Int}{p:Nat × Nat} (ht:lV P t=some (e,1,by_)) (hx:ev x=.ptrs l) (hy:ev y=.c (.int k i)) (hg:mP l i=some p):Pv P ⟨d,.indexAddr t x y,ty,pos,af,gd⟩ ev σ (.pptr p):=fun K h=>by
 obtain ⟨h0,h1,h2⟩:=aJC hg
 (refine .inl ?_;simp only [eG,ht,hx,hy])
 exact ⟨trivial,h0,h1,fun q hq=>by rw [h2] at hq;cases hq;exact h⟩
theorem aAU {s:List UInt8}{i:Int}{u:UInt8} (ht:jZ P t=2) (hx:ev x=.c (.str s)) (hy:ev y=.c (.int k i)) (hg:mP s i=some u):Pv P ⟨d,.index t x y,ty,pos,af,gd⟩ ev σ (.c (.int .u8 u.toNat)):=fun K h=>by
 obtain ⟨h0,h1,h2⟩:=aJC hg
 (refine .inl ?_;simp only [eG,hx,hy])
 exact ⟨ht,h0,h1,fun q hq=>by rw [h2] at hq;cases hq;exact h⟩
theorem aAu {vs:List AV}{i:Nat} (hx:ev x=.tup vs) (hv:vs[i]?=some v):Pv P ⟨d,.extract x i,ty,pos,af,gd⟩ ev σ v:=fun K h=>by (refine .inl ?_;simp only [eG,hx,hv]);exact h
def aDx (places:Nat→Option (Nat × Nat)) (ev:Operand→AV):List AV→List (Nat × Operand)→Option (List AV)
 | cs,[]=>some cs
 | cs,(i,x) :: r=>match places i with
  | some (off,n)=>if (ev x).solid&&(ev x).cells.length==n&&Nat.ble (off+n) cs.length then aDx places ev (cs.take off++((ev x).cells++cs.drop (off+n))) r else .none
  | _=>.none
theorem aLc {places:Nat→Option (Nat × Nat)} (hp:∀ i,pT P t i=places i):∀ (parts:List (Nat × Operand)) (cs us:List AV),aDx places ev cs parts=some us→aFo P t ev cs parts=some us
 | [],cs,us,h=>h
 | (i,x) :: r,cs,us,h=>by
  simp only [aDx] at h
  simp only [aFo,hp i]
  split at h
  ·
   rename_i off n hpl
   rw [hpl]
   simp only
   split at h
   ·
    rename_i hc
    simp only [aR,nK,Nat.ble_eq] at hc
    rw [bB ⟨hc.1.1,hc.1.2,hc.2⟩,dJ]
    exact aLc hp r _ _ h
   ·
    cases h
  ·
   cases h
theorem gD {parts:Array (Nat × Operand)}{z:List Value}{places:Nat→Option (Nat × Nat)}{cs:List AV} (h6:jZ P t=6∧aFk P t=true∧mM P t=some z∧∀ i,pT P t i=places i) (hc:aDx places ev (z.map AV.ofFlat) parts.toList=some cs):Pv P ⟨d,.build t parts,ty,pos,af,gd⟩ ev σ (.agg cs):=fun K h=>by
 (refine .inl ?_;simp only [eG,h6.2.2.1,aLc h6.2.2.2 _ _ _ hc])
 exact ⟨h6.1,h6.2.1,h⟩
theorem jX {places:Nat→Option (Nat × Nat)}{cs:List AV}:aDx places ev cs []=some cs:=rfl
theorem fD {places:Nat→Option (Nat × Nat)}{cs cs' us out:List AV}{i off n:Nat}{v:AV}{r:List (Nat × Operand)} (hp:places i=some (off,n)) (hv:ev x=v) (hs:v.solid=true) (hu:v.cells=us) (hl:(us.length==n&&Nat.ble (off+n) cs.length)=true) (hc:cs.take off++(us++cs.drop (off+n))=cs')
  (t:aDx places ev cs' r=some out):aDx places ev cs ((i,x) :: r)=some out:=by
 simp only [aDx,hp,hv,hs,hu,dW]
 rw [bB hl,hc]
 exact t
theorem jY {parts:Array (Nat × Operand)}{z:List Value}{places:Nat→Option (Nat × Nat)}{c0 cs:List AV} (h6:jZ P t=6∧aFk P t=true∧mM P t=some z∧∀ i,pT P t i=places i) (h0:z.map AV.ofFlat=c0) (hc:aDx places ev c0 parts.toList=some cs):Pv P ⟨d,.build t parts,ty,pos,af,gd⟩ ev σ (.agg cs):=by
 subst h0;exact gD h6 hc
end
end Go.Proofs.YtnigjppddilpcaaGreatDoor.Abs
namespace Go.Proofs.YtnigjppddilpcaaGreatDoor.Abs
open Go
set_option linter.unusedVariables false
set_option linter.unusedSimpArgs false
variable {mo:Bool}
theorem aHp {a b:Nat} (h:Nat.blt a b=true):a<b:=by rw [Nat.blt_eq] at h;exact h
theorem aHo {a b:Nat} (h:Nat.ble a b=true):a≤b:=by rw [Nat.ble_eq] at h;exact h
def leP:List AV→List AV→Prop
 | [],[]=>True
 | a :: as,b :: bs=>a.le b∧leP as bs
 | _,_=>False
theorem aDB:∀ {as bs:List AV},leP as bs→AV.leL as bs
 | [],[],_=>.nil
 | a :: as,b :: bs,h=>.cons h.1 (aDB h.2)
 | [],_ :: _,h=>h.elim
 | _ :: _,[],h=>h.elim
def leC:List AV→List PV→Prop
 | [],[]=>True
 | .c p :: as,q :: qs=>p=q∧leC as qs
 | .own _ sz xs :: as,q :: qs=>PV.list sz xs=q∧leC as qs
 | .nil :: as,q :: qs=>(∃ sz,q=.list sz [])∧leC as qs
 | _,_=>False
theorem aJF:∀ {as:List AV}{ps:List PV},leC as ps→AV.leL as (AV.cs ps)
 | [],[],_=>.nil
 | .c p :: as,q :: qs,h=>.cons (by simp only [leC] at h;rw [h.1];exact AV.le_refl _) (aJF (by simp only [leC] at h;exact h.2))
 | .own t sz xs :: as,q :: qs,h=>.cons (by simp only [leC] at h;rw [← h.1];exact AV.le_own_list _ _ _) (aJF (by simp only [leC] at h;exact h.2))
 | .nil :: as,q :: qs,h=>.cons (by simp only [leC] at h;obtain ⟨⟨sz,rfl⟩,_⟩:=h;exact AV.le_nil_list sz) (aJF (by simp only [leC] at h;exact h.2))
 | [],_ :: _,h=>by simp [leC] at h
 | .c _ :: _,[],h=>by simp [leC] at h
 | .own .. :: _,[],h=>by simp [leC] at h
 | .nil :: _,[],h=>by simp [leC] at h
 | .agg _ :: _,_,h=>by simp [leC] at h
 | .tup _ :: _,_,h=>by simp [leC] at h
 | .box .. :: _,_,h=>by simp [leC] at h
 | .eptr .. :: _,_,h=>by simp [leC] at h
 | .ptrs _ :: _,_,h=>by simp [leC] at h
 | .view .. :: _,_,h=>by simp [leC] at h
 | .mrow .. :: _,_,h=>by simp [leC] at h
 | .mptr .. :: _,_,h=>by simp [leC] at h
 | .pptr _ :: _,_,h=>by simp [leC] at h
 | .fn .. :: _,_,h=>by simp [leC] at h
 | .nilptr :: _,_,h=>by simp [leC] at h
 | .any :: _,_,h=>by simp [leC] at h
theorem bQ {x:AV}{as:List AV}{ps:List PV} (hx:x=.agg as) (h:leC as ps):x.le (.agg (AV.cs ps)):=by subst hx;exact AV.le_agg (aJF h)
theorem aTi {x:AV}{as bs:List AV} (hx:x=.agg as) (h:leP as bs):x.le (.agg bs):=by subst hx;exact AV.le_agg (aDB h)
theorem qQ {x:AV}{as bs:List AV} (hx:x=.tup as) (h:leP as bs):x.le (.tup bs):=by subst hx;exact AV.le_tup (aDB h)
theorem aR8 {x:AV}{f:FuncId}{as bs:List AV} (hx:x=.fn f as) (h:leP as bs):x.le (.fn f bs):=by
 subst hx
 intro g w v hv
 cases hv with
 | fn _ vs cs h1 h2 =>
  have:=gB.le (aDB h) (show gB g w vs as from ⟨h1,h2⟩)
  exact .fn f vs bs this.1 this.2
theorem aJG {α:Type}{sz:Nat}{row:α→List PV}:AV.nil.le (.c (PV.ls sz row [])):=AV.le_nil_list sz
theorem aC1 {α:Type}{t sz:Nat}{row:α→List PV} (h:Nat.blt 0 sz=true):AV.nil.le (.os t sz row []):=AV.le_nil_own t sz (aHp h)
theorem aC:leS [] []:=.nil
theorem hU {cs:List AV}{ps:List PV}{σ σ':St} (h:leC cs ps) (t:leS σ σ'):leS (cs :: σ) (AV.cs ps :: σ'):=.cons (aJF h) t
theorem aBU {cs bs:List AV}{σ σ':St} (h:leP cs bs) (t:leS σ σ'):leS (cs :: σ) (bs :: σ'):=.cons (aDB h) t
section
variable {P:Program}{all r:List Oper}{d:Nat}{ty:TypeId}{pos:String}{af:Array Edge}{fr:Fr}{σ:St}{K:Fr→St→Prop}{v:AV}
theorem jT {e:TypeId}{z:List Value}{cs:List AV}{n:Nat}{σ':St} (hz:mM P e=some z) (hc:z.map AV.ofFlat=cs) (hn:σ.length=n) (hσ:σ++[cs]=σ') (h:lS mo P all r ((d,.box n 0) :: fr) σ' K):lS mo P all (⟨some d,.alloc e,ty,pos,af,none⟩ :: r) fr σ K:=by
 refine tB ?_
 refine wI rfl ?_
 subst hc hn hσ
 (refine .inl ?_;simp only [eG,hz])
 exact h
theorem iR {e:TypeId}{x:Operand}{cs:List AV}{n:Nat}{σ':St} (hx:fr.ev x=v) (hs:v.solid=true) (hc:v.cells=cs) (hn:σ.length=n) (hσ:σ++[cs]=σ') (h:lS mo P all r ((d,.box n 0) :: fr) σ' K):lS mo P all (⟨some d,.box e x,ty,pos,af,none⟩ :: r) fr σ K:=by
 refine tB ?_
 refine wI rfl ?_
 subst hx hc hn hσ
 (refine .inl ?_;simp only [eG])
 exact ⟨hs,h⟩
theorem cD {dst:Option Tmp}{t:TypeId}{x y:Operand}{ag:Bool}{n id off:Nat}{cs us:List AV}{σ':St} (hd:dst=none) (ht:kX P t=some (ag,n)) (hx:fr.ev x=.box id off) (hy:fr.ev y=v) (hs:v.solid=true) (hu:v.cells=us) (hn:us.length=n) (hc:σ[id]?=some cs) (hle:Nat.ble (off+n) cs.length=true)
  (hσ:σ.set id (cs.take off++(us++cs.drop (off+n)))=σ') (h:lS mo P all r fr σ' K):lS mo P all (⟨dst,.store t x y,ty,pos,af,none⟩ :: r) fr σ K:=by
 subst hd
 refine tB ?_
 refine wI rfl ?_
 subst hy hu
 (refine .inl ?_;simp only [eG,ht,hx,hc])
 refine ⟨hs,hn,aHo hle,?_⟩
 rw [dJ,hσ]
 exact h
theorem sW {α:Type}{t e:TypeId}{len sz by_:Nat}{parts:Array (Nat × Operand)}{rows:List (List PV)}{row:α→List PV}{xs:List α}{σ':St} (hs:List Nat) (ht:lV P t=some (e,sz,by_)) (hl:parts.toList.length=len) (hm:Nat.ble (len*sz) 1000000=true) (hr:aB4 hs sz fr.ev 0 parts.toList=some rows) (hx:rows=xs.map row)
  (hf:fr.dem (qP (some d))=fr) (hσ:σ.dem (qP (some d))=σ') (h:lS mo P all r ((d,.os (16*d) sz row xs) :: fr) σ' K):lS mo P all (⟨some d,.buildSlice t len parts,ty,pos,af,none⟩ :: r) fr σ K:=by
 refine tB ?_
 refine wI rfl ?_
 subst hσ hx
 (refine .inl ?_;simp only [eG,ht])
 refine ⟨hl,aHo hm,hs,?_⟩
 simp only [hr,Fr.demo,hf]
 exact h
theorem aO3 {t e:TypeId}{len by_:Nat}{parts:Array (Nat × Operand)}{l:List (Nat × Nat)} (ht:lV P t=some (e,1,by_)) (hl:parts.toList.length=len) (hm:Nat.ble (len*1) 1000000=true) (h0:aB4 [] 1 fr.ev 0 parts.toList=none) (hr:aGs fr.ev 0 parts.toList=some l)
  (h:lS mo P all r ((d,.ptrs l) :: fr) σ K):lS mo P all (⟨some d,.buildSlice t len parts,ty,pos,af,none⟩ :: r) fr σ K:=by
 refine tB ?_
 refine wI rfl ?_
 (refine .inl ?_;simp only [eG,ht])
 refine ⟨hl,aHo hm,[],?_⟩
 simp only [h0,hr]
 exact ⟨trivial,h⟩
def aQD (d t0:Nat):Nat→Bool:=fun t=>qP (some d) t||t==t0
theorem aPB {α:Type}{o:Oper}{t tx e:TypeId}{sz by_:Nat}{s x:AV}{row:α→List PV}{xs ys:List α}{f:Nat→Bool}{K:Option (Nat→Bool)→AV→St→Prop} (ht:lV P t=some (e,sz,by_)) (hb:Nat.blt 0 by_=true) (htx:jZ P tx=3)
  (hs:(s=.nil∧xs=[]∧f=qP o.dst)∨∃ t0,s=.os t0 sz row xs∧f=fun t=>qP o.dst t||t==t0) (hx:isl x sz row ys∨(x=.nil∧ys=[])) (hy:∀ u,(row u).length=sz) (hm:(xs.length+ys.length)*by_≤140737488355328)
  (h:K (some f) (.os (sQ o.dst) sz row (xs++ys)) (σ.dem f)):wT P o t tx s x σ K:=by
 have hrow:∀ y∈ys.map row,y.length=sz:=by simp [hy]
 have hb':=aHp hb
 have e1:AV.os (sQ o.dst) sz row (xs++ys)=.own (sQ o.dst) sz (xs.map row++ys.map row):=by simp [AV.os]
 rw [e1] at h
 rcases hs with ⟨rfl,rfl,rfl⟩ | ⟨t0,rfl,rfl⟩
 ·
  rcases hx with (rfl | ⟨t1,rfl⟩) | ⟨rfl,rfl⟩
  ·
   simp only [wT,ht,PV.ls];exact ⟨hb',trivial,htx,hrow,by simpa using hm,h⟩
  ·
   simp only [wT,ht,AV.os];exact ⟨hb',trivial,htx,hrow,by simpa using hm,h⟩
  ·
   simp only [wT,ht];exact ⟨hb',htx,by simp,h⟩
 ·
  rcases hx with (rfl | ⟨t1,rfl⟩) | ⟨rfl,rfl⟩
  ·
   simp only [wT,ht,PV.ls,AV.os];exact ⟨hb',trivial,trivial,htx,hrow,by simpa using hm,h⟩
  ·
   simp only [wT,ht,AV.os];exact ⟨hb',trivial,trivial,htx,hrow,by simpa using hm,h⟩
  ·
   simp only [wT,ht,AV.os];exact ⟨hb',trivial,htx,by simpa using hm,by simpa using h⟩
theorem aSg {α:Type}{s x:Operand}{t tx e:TypeId}{sz by_:Nat}{row:α→List PV}{ys zs:List α} (ht:lV P t=some (e,sz,by_)) (hb:Nat.blt 0 by_=true) (htx:jZ P tx=3) (hs:fr.ev s=.nil) (hx:isl (fr.ev x) sz row ys) (hy:∀ u,(row u).length=sz) (hz:app by_ ([]:List α) ys=some zs)
  (h:lS mo P all r ((d,.os (16*d) sz row zs) :: fr.dem (qP (some d))) (σ.dem (qP (some d))) K):lS mo P all (⟨some d,.call { callee:=.builtin .append,args:=#[s,x],argTypes:=#[t,tx] },ty,pos,af,none⟩ :: r) fr σ K:=by
 obtain ⟨hm,rfl⟩:=aGq hz
 refine tB ?_
 refine wI rfl ?_
 (refine .inl ?_;simp only [eG])
 exact aPB ht hb htx (.inl ⟨hs,rfl,rfl⟩) (.inl hx) hy hm h
theorem aDg {α:Type}{s x:Operand}{t tx e:TypeId}{sz by_ t0:Nat}{row:α→List PV}{xs ys zs:List α} (ht:lV P t=some (e,sz,by_)) (hb:Nat.blt 0 by_=true) (htx:jZ P tx=3) (hs:fr.ev s=.os t0 sz row xs) (hx:isl (fr.ev x) sz row ys) (hy:∀ u,(row u).length=sz) (hz:app by_ xs ys=some zs)
  (h:lS mo P all r ((d,.os (16*d) sz row zs) :: fr.dem (aQD d t0)) (σ.dem (aQD d t0)) K):lS mo P all (⟨some d,.call { callee:=.builtin .append,args:=#[s,x],argTypes:=#[t,tx] },ty,pos,af,none⟩ :: r) fr σ K:=by
 obtain ⟨hm,rfl⟩:=aGq hz
 refine tB ?_
 refine wI rfl ?_
 (refine .inl ?_;simp only [eG])
 exact aPB ht hb htx (.inr ⟨t0,hs,rfl⟩) (.inl hx) hy hm h
theorem aUN {s x:Operand}{t tx e:TypeId}{by_ t0:Nat}{xs ys zs:List UInt8} (ht:lV P t=some (e,1,by_)) (hb:Nat.blt 0 by_=true) (htx:jZ P tx=2) (hs:fr.ev s=.os t0 1 hF xs) (hx:fr.ev x=.c (.str ys)) (hz:app by_ xs ys=some zs)
  (h:lS mo P all r ((d,.os (16*d) 1 hF zs) :: fr.dem (aQD d t0)) (σ.dem (aQD d t0)) K):lS mo P all (⟨some d,.call { callee:=.builtin .append,args:=#[s,x],argTypes:=#[t,tx] },ty,pos,af,none⟩ :: r) fr σ K:=by
 obtain ⟨hm,rfl⟩:=aGq hz
 refine tB ?_
 refine wI rfl ?_
 have e1:AV.os (sQ (some d)) 1 hF (xs++ys)=.own (sQ (some d)) 1 (xs.map hF++ys.map hF):=by simp [AV.os]
 have h':lS mo P all r ((d,AV.os (sQ (some d)) 1 hF (xs++ys)) :: fr.dem (aQD d t0)) (σ.dem (aQD d t0)) K:=h
 rw [e1] at h'
 (refine .inl ?_;simp only [eG,wT,ht,hs,hx,AV.os])
 exact ⟨aHp hb,trivial,trivial,htx,by simpa using hm,h'⟩
theorem eW {fo:Operand}{args:Array Operand}{ts:Array TypeId}{f:FuncId}{caps as:List AV}{σc σr σ':St}{rv:AV} (ids:List Nat) (hf:fr.ev fo=.fn f caps) (hc:cR P f as σc rv σr) (hnd:decide ids.Nodup=true) (hlt:(ids.all fun i=>Nat.blt i σ.length)=true)
  (ha:leP (AV.lowL ids (args.toList.map fr.ev++caps)) as) (hs:leS (σ.sub ids) σc) (hfr:(fr.dem fun t=>t / 16==d)=fr) (hv:rv.lift ids σ.length d=v) (hσ:σ.after ids d σr=σ') (h:lS mo P all r ((d,v) :: fr) σ' K) :
  lS mo P all (⟨some d,.call { callee:=.value fo,args:=args,argTypes:=ts },ty,pos,af,none⟩ :: r) fr σ K:=by
 refine tB ?_
 unfold aop
 simp only [hf,aH6]
 refine ⟨d,ids,[],as,σc,rv,σr,gE hnd,.nil,fun i hi=>aHp (cI.1 hlt i hi),aDB ha,hs,hc,?_⟩
 simp only [eR,aJs,hfr,hv,hσ]
 exact h
theorem aCK {fo:Operand}{args:Array Operand}{ts:Array TypeId}{f:FuncId}{caps as:List AV}{σc σr σ':St}{rv:AV}{fr1:Fr} (k:Nat) (ids lt:List Nat) (hf:fr.ev fo=.fn f caps) (hc:cR P f as σc rv σr) (hnd:decide ids.Nodup=true) (hltn:decide lt.Nodup=true) (hlt:(ids.all fun i=>Nat.blt i σ.length)=true)
  (ha:leP (AV.lowTL lt ids (args.toList.map fr.ev++caps)) as) (hs:leS (σ.sub ids lt) σc) (hfr:(fr.dem (aFg lt k))=fr1) (hv:rv.lift ids σ.length k=v) (hσ:σ.after ids k σr lt=σ') (h:lS mo P all r ((d,v) :: fr1) σ' K) :
  lS mo P all (⟨some d,.call { callee:=.value fo,args:=args,argTypes:=ts },ty,pos,af,none⟩ :: r) fr σ K:=by
 refine tB ?_
 unfold aop
 simp only [hf,aH6]
 refine ⟨k,ids,lt,as,σc,rv,σr,gE hnd,gE hltn,fun i hi=>aHp (cI.1 hlt i hi),aDB ha,hs,hc,?_⟩
 simp only [eR,hfr,hv,hσ]
 exact h
theorem aCP {dst:Option Tmp}{gd:Option (Nat × Bool)}{fo:Operand}{args:Array Operand}{ts:Array TypeId}{f:FuncId}{caps as:List AV}{rv:AV} (hf:fr.ev fo=.fn f caps) (hc:cR P f as [] rv []) (ha:leP (AV.lowL [] (args.toList.map fr.ev++caps)) as) (hv:rv.low []=v) :
  Qv P ⟨dst,.call { callee:=.value fo,args:=args,argTypes:=ts },ty,pos,af,gd⟩ fr σ v:=fun K hk=>by
 unfold aQo
 simp only [hf]
 exact ⟨as,rv,aDB ha,hc,by rw [hv];exact hk⟩
end
section
variable {P:Program}{V:List Nat}{k0:Nat}{Q:Exit→Fr→St→Prop}{fr:Fr}{σ:St}{K:Fr→St→Prop}
theorem dT {all:List Oper}{fr':Fr} (hp:prune V fr=fr') (h:Q .normal fr' σ):lS mo P all [] fr σ fun fr σ=>hold (Q .normal (prune V fr) σ):=by
 subst hp;exact h
theorem lM (h:K fr σ):aEb K Q .normal fr σ:=h
theorem aQ (h:Q .ret fr σ):aEb K Q .ret fr σ:=h
theorem cX {id:Nat} (h:Q (.exit id) fr σ):aEb K Q (.exit id) fr σ:=h
theorem dH {id:Nat} (h:Q .normal fr σ):aQA id Q .normal fr σ:=h
theorem bM {id:Nat} (h:Q .ret fr σ):aQA id Q .ret fr σ:=h
theorem fS {id:Nat} (h:Q .normal fr σ):aQA id Q (.exit id) fr σ:=by simp only [aQA,cL];exact h
theorem kD {c:Operand}{x y:Code} (h:fr.ev c=.c (.bool true)) (h1:yW P V k0 x Q fr σ):yW P V k0 (.cond c x y) Q fr σ:=aMu true h (fun _=>h1) (fun e=>by cases e)
theorem aCD {c:Operand}{x y:Code} (h:fr.ev c=.c (.bool false)) (h1:yW P V k0 y Q fr σ):yW P V k0 (.cond c x y) Q fr σ:=aMu false h (fun e=>by cases e) (fun _=>h1)
theorem jR {x y:Code}{J:Type} (C:J→Prop) (F:J→Fr) (G:J→St) (h:yW P V k0 x (aEb (fun fr σ=>∃ j,C j∧pX k0 fr σ (F j) (G j)) Q) fr σ) (h2:∀ j,C j→yW P V k0 y Q (F j) (G j)):yW P V k0 (.seq x y) Q fr σ :=
 aVV (fun fr σ=>∃ j,C j∧fr=F j∧σ=G j) (aDc x (fun e fr σ he=>by
  cases e with
  | normal=>obtain ⟨j,h1,h2⟩:=he;exact ⟨F j,G j,h2,j,h1,rfl,rfl⟩
  | _=>exact he) h) (fun fr σ he=>by obtain ⟨j,hj,rfl,rfl⟩:=he;exact h2 j hj)
theorem gU {c:Code}{S R:Type} (body:S→Option (dU S R)) (F:S→Fr) (G:S→St) {s0:S}{r:R} (h0:gL body s0=some r) (hw:pX k0 fr σ (F s0) (G s0))
  (h:∀ s st,body s=some st→(∀ r',st=.out r'→r'=r)→yW P V k0 c (aEb (fun fr σ=>∃ s',st=.next s'∧pX k0 fr σ (F s') (G s')) Q) (F s) (G s)):yW P V k0 (.loop c) Q fr σ:=by
 obtain ⟨n,hn⟩:=aDC h0
 refine aVe (fun m fr σ=>∃ s,aCb body m s=some r∧fr=F s∧σ=G s) n hw ⟨s0,hn,rfl,rfl⟩ ?_
 rintro m fr σ ⟨s,hs,rfl,rfl⟩
 cases m with
 | zero=>cases hs
 | succ m =>
  simp only [aCb] at hs
  obtain ⟨st,h1,h2⟩:=lB hs
  refine aDc c (fun e fr σ he=>?_) (h s st h1 (fun r' e=>by subst e;cases h2;rfl))
  cases e with
  | normal=>obtain ⟨s',rfl,hw⟩:=he;exact ⟨m,F s',G s',by omega,hw,s',h2,rfl,rfl⟩
  | _=>exact he
theorem bH (toks:List Nat) (m:Nat) {fr':Fr}{σ':St} (hnd:decide toks.Nodup=true) (hm:Nat.ble k0 m=true) (hf:fr'.inB m=true) (hb:St.inB m ((σ.retok toks).take m)=true) (h:Fr.below (fr.retok toks) fr') (hs:leS ((σ.retok toks).take m) σ'):pX k0 fr σ fr' σ' :=
 aME toks (gE hnd) m h (aHo hm) hf hs hb
theorem bG {A:List AV→Prop} (h:A []):pC P fr σ [] A:=h
theorem bX {t:Nat}{v:AV}{rs:List ResultVar}{A:List AV→Prop} (hv:fr.get t=v) (h:pC P fr σ rs fun vs=>A (v :: vs)):pC P fr σ (.tmp t :: rs) A:=by
 simp only [pC,hv];exact h
theorem eN {a id off n:Nat}{t:TypeId}{cs us:List AV}{rs:List ResultVar}{A:List AV→Prop} (ht:kX P t=some (true,n)) (ha:fr.get a=.box id off) (hs:σ[id]?=some cs) (hn:Nat.ble (off+n) cs.length=true) (hc:(cs.drop off).take n=us) (h:pC P fr σ rs fun vs=>A (.agg us :: vs)):pC P fr σ (.cell a t :: rs) A:=by
 simp only [pC,ht,ha,aBj,hs];subst hc;exact ⟨aHo hn,h⟩
theorem bI {rs rs':List ResultVar}{r:AV}{σr:St} (hrs:rs=rs') (h:pC P fr σ rs' fun vs=>Fin k0 (aNQ vs) σ r σr):aUC P rs k0 r σr .ret fr σ:=by subst hrs;exact h
theorem aT9 {rs rs':List ResultVar}{r:AV}{σr:St} (hrs:rs=rs') (h:pC P fr σ rs' fun vs=>Fin k0 (aNQ vs) σ r σr):aUC P rs k0 r σr .normal fr σ:=by subst hrs;exact h
theorem aP {rv r:AV}{σr:St} (toks:List Nat) (hnd:decide toks.Nodup=true) (hin:(rv.retok toks).inB k0=true) (hb:St.inB k0 (St.dem aB1 (σ.take k0))=true) (hr:(rv.retok toks).le r) (hσ:leS (St.dem aB1 (σ.take k0)) σr):Fin k0 rv σ r σr :=
 aRS toks (gE hnd) hin (aPJ rfl hb) hr hσ
theorem aPK {rv r:AV}{σr:St} (toks:List Nat) (hnd:decide toks.Nodup=true) (hin:rv.inB k0=true) (hb:St.inB k0 (σ.take k0)=true) (hr:(rv.retok toks).le r) (hσ:leS (St.retok toks (σ.take k0)) σr):Fin k0 rv σ r σr:=by
 intro c g w v hk hi hv
 have hf:yV g w #[v] [(0,rv)]:=fun d=>by
  simp only [Fr.get]
  split
  ·
   rename_i e;subst e;exact hv
  ·
   exact .any
 have w1:pX k0 [(0,rv)] σ [(0,rv)] (σ.take k0):=pX.take (eP _) (fun d=>by
  simp only [Fr.get]
  split
  ·
   exact hin
  ·
   rfl) (fun i cs hi hcs=>St.inB_get hb i cs (by rw [eX hi];exact hcs))
 obtain ⟨g1,hi1,hf1⟩:=w1 c g w #[v] hk hi hf
 obtain ⟨g2,hi2,hf2⟩:=pX.retok (k0:=k0) (fr:=[(0,rv)]) (σ:=σ.take k0) toks (gE hnd) c g1 w #[v] hk hi1 hf1
 obtain ⟨g3,hi3,hf3⟩:=pX.cells (k0:=k0) (fr:=Fr.retok toks [(0,rv)]) hσ c g2 w #[v] hk hi2 hf2
 exact ⟨g3,hi3,hr _ _ _ (hf3 0)⟩
theorem aTa {j off:Nat}{cs0:List AV}{rv:AV}{σr:St} (hv:rv=.box j off) (hj:Nat.ble k0 j=true) (hcs:σ[j]?=some cs0) (hcin:AV.inB.inBL k0 (AV.demL aB1 cs0)=true) (hb:St.inB k0 (St.dem aB1 (σ.take k0))=true) (hσ:leS (St.dem aB1 (σ.take k0)++[AV.demL aB1 cs0]) σr):Fin k0 rv σ (.box k0 off) σr:=by
 subst hv
 exact aS9 (aHo hj) hcs hcin (aPJ rfl hb) hσ
end
theorem gT {τ κ:Type}{t y:τ}{x:Fl τ κ}{f:κ→Option τ} (h:some (Fl.done t)=some x) (h2:x.next f=some y):some t=some y:=by cases h;exact h2
theorem mY {τ κ:Type}{j:κ}{y:τ}{x:Fl τ κ}{f:κ→Option τ} (h:x=Fl.go j) (h2:x.next f=some y):f j=some y:=by subst h;exact h2
theorem eZ {σ ρ:Type}{r r':ρ}{st:dU σ ρ} (h:some (dU.out r')=some st) (h2:∀ r',st=.out r'→r'=r):some r'=some r:=by
 rw [h2 r' (iD h).symm]

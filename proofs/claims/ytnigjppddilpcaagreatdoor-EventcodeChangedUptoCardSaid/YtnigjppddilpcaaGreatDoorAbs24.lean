/- Tokens renamed: what a loop needs whose slices grow. From a law's data to plain values. A law's row: its arguments, and what is left behind. The printed walks' steps: each operation's rule, its outcome told in typed lists. The printed walks' steps: operations that grow memory, calls, ways that meet, loops, hand-backs. -/
import Derived.Test.YtnigjppddilpcaaGreatDoorAbs19
import Derived.ChangeShapes
import Derived.ChangeSlices
import Derived.ChangeArms
import Derived.ChangeOld
import Derived.DataReads
import Derived.WideShapes
import Derived.Below
import Derived.Test.YtnigjppddilpcaaGreatDoorPk1
namespace Go.Proofs.YtnigjppddilpcaaGreatDoor.Abs
open Go
set_option linter.unusedVariables false
set_option linter.unusedSimpArgs false
variable {mo:Bool}
def Fr.retok (toks:List Nat):Fr→Fr
 | []=>[]
 | (i,a) :: r=>(i,a.retok toks) :: Fr.retok toks r
def St.retok (toks:List Nat):St→St
 | []=>[]
 | cs :: r=>AV.retokL toks cs :: St.retok toks r
theorem St.retok_eq (toks:List Nat) (σ:St):σ.retok toks=σ.map (AV.retokL toks):=by
 induction σ with
 | nil=>rfl
 | cons a l ih=>simp [St.retok,ih]
theorem Fr.get_retok (toks:List Nat) (fr:Fr) (d:Nat):(fr.retok toks).get d=(fr.get d).retok toks:=by
 induction fr with
 | nil=>rfl
 | cons x r ih =>
  obtain ⟨i,a⟩:=x
  simp only [Fr.retok,Fr.get]
  split
  ·
   rfl
  ·
   exact ih
theorem hU.retok {k0:Nat}{fr:Fr}{σ:St} (toks:List Nat) (hnd:toks.Nodup):hU k0 fr σ (fr.retok toks) (σ.retok toks):=by
 intro c g w tmps hk hi hf
 refine ⟨⟨g.I,g.β,fun j=>(toks[j]?).bind g.τ⟩,⟨hi.os,hi.tape,hi.output,hi.size,hi.old,hi.Ile,hi.Iold,hi.Ilt,hi.βpre,hi.βnew,hi.βnd,?_,hi.βI,hi.βlt,fun t b ht=>?_,fun t t' b h1 h2=>?_,fun id cs b hs' hb=>?_,hi.cell0,hi.glo⟩,fun d=>?_⟩
 ·
  rw [St.retok_eq,List.length_map];exact hi.βlen
 ·
  change (toks[t]?).bind g.τ=some b at ht
  cases htt:toks[t]? with
  | none=>simp [htt] at ht
  | some s =>
   simp only [htt,Option.bind_some] at ht
   exact hi.τnew s b ht
 ·
  change (toks[t]?).bind g.τ=some b at h1
  change (toks[t']?).bind g.τ=some b at h2
  cases e1:toks[t]? with
  | none=>simp [e1] at h1
  | some s =>
   cases e2:toks[t']? with
   | none=>simp [e2] at h2
   | some s' =>
    simp only [e1,e2,Option.bind_some] at h1 h2
    have:=hi.τinj s s' b h1 h2
    subst this
    exact jR hnd e1 e2
 ·
  rw [St.retok_eq,List.getElem?_map,Option.map_eq_some_iff] at hs'
  obtain ⟨cs0,hcs0,rfl⟩:=hs'
  obtain ⟨cur,e,hh,hc⟩:=hi.store id cs0 b hcs0 hb
  refine ⟨cur,e,hh,by simpa [AV.retokL_eq] using hc.1,fun i v a hv ha=>?_⟩
  simp only [AV.retokL_eq,List.getElem?_map,Option.map_eq_some_iff] at ha
  obtain ⟨a,ha,rfl⟩:=ha
  exact (hc.2 i v a hv ha).retok toks
 ·
  rw [Fr.get_retok];exact (hf d).retok toks
theorem aEX {k0:Nat} (toks:List Nat) (hnd:toks.Nodup) (m:Nat) {fr fr':Fr}{σ σ':St} (h:Fr.below (fr.retok toks) fr') (hm:k0≤m) (hf:fr'.inB m=true) (hs:leS ((σ.retok toks).take m) σ') (hb:St.inB m ((σ.retok toks).take m)=true):hU k0 fr σ fr' σ' :=
 (hU.retok toks hnd).trans (aKs m h hm hf hs hb)
section
variable {P:Program}{ops r:List Oper}{d:Option Tmp}{op:Op}{ty:TypeId}{pos:String}{af:Array Edge}{j:Nat}{fr:Fr}{σ:St}{K:Fr→St→Prop}{Kq:Fr→Prop}
theorem jF (h:aop P ⟨d,op,ty,pos,af,none⟩ fr σ fun fr σ=>eZ mo P ops r fr σ K):eZ mo P ops (⟨d,op,ty,pos,af,none⟩ :: r) fr σ K:=aEh h
theorem aJc (h:aBU P ⟨d,op,ty,pos,af,none⟩ fr σ fun fr σ=>eZ true P ops r fr σ K):eZ true P ops (⟨d,op,ty,pos,af,none⟩ :: r) fr σ K:=h
end
end Go.Proofs.YtnigjppddilpcaaGreatDoor.Abs
namespace Go.Proofs.YtnigjppddilpcaaGreatDoor.Abs
open Go
set_option linter.unusedVariables false
set_option linter.unusedSimpArgs false
def aBA (S:TypeId→List PV→Prop):List TypeId→List PV→Prop
 | [],ps=>ps=[]
 | t :: ts,ps=>∃ p q,ps=p++q∧S t p∧aBA S ts q
def gB (P:Program):Nat→TypeId→List PV→Prop
 | 0,_,_=>False
 | n+1,t,ps=>match P.underlying t with
  | some .bool=>∃ b,ps=[.bool b]
  | some (.int k)=>∃ x,ps=[.int k x]∧(Lit.int k x).wf=true
  | some .string=>∃ s:List UInt8,ps=[.str s]∧s.length≤140737488351232
  | some (.slice e)=>∃ xs,ps=[.list (P.cellsOf e) xs]∧(∀ x∈xs,gB P n e x)∧xs.length≤9223372036854775807∧xs.length*P.bytesOf e≤140737488351232
  | some (.struct fs)=>aBA (gB P n) (fs.toList.map (·.type)) ps
  | _=>False
def aCQ (P:Program):Nat→List Field→Option Nat
 | o,[]=>some o
 | o,f :: r=>if f.offset=o then aCQ P (o+P.cellsOf f.type) r else none
def aEE (P:Program) (L:List TypeId):Bool:=L.all fun t=>match P.underlying t with
 | some .bool=>true
 | some (.int _)=>true
 | some .string=>true
 | some (.slice e)=>L.contains e&&decide (0<P.cellsOf e)
 | some (.struct fs)=>fs.toList.all (fun f=>L.contains f.type)&&aCQ P 0 fs.toList==some (P.cellsOf t)
 | _=>false
def old (W:World):Nat→Nat→Prop:=fun b _=>b<W.heap.size
def RVs (W:World) (cs:List Value) (ps:List PV):Prop:=ps.length=cs.length∧∀ (i:Nat) v p,cs[i]?=some v→ps[i]?=some p→RV (old W) W v p
theorem RVs.one {W:World}{v:Value}{p:PV} (h:RV (old W) W v p):RVs W [v] [p]:=⟨rfl,fun i v' p' h1 h2=>by cases i with
 | zero=>simp at h1 h2;subst h1;subst h2;exact h
 | succ i=>simp at h1⟩
theorem RVs.app {W:World}{cs cs':List Value}{ps ps':List PV} (h:RVs W cs ps) (h':RVs W cs' ps'):RVs W (cs++cs') (ps++ps'):=by
 refine ⟨by simp [h.1,h'.1],fun i v p h1 h2=>?_⟩
 by_cases hi:i<cs.length
 ·
  rw [List.getElem?_append_left hi] at h1
  rw [List.getElem?_append_left (by rw [h.1];exact hi)] at h2
  exact h.2 i v p h1 h2
 ·
  rw [List.getElem?_append_right (by omega)] at h1
  rw [List.getElem?_append_right (by rw [h.1];omega),h.1] at h2
  exact h'.2 _ v p h1 h2
theorem aBb {α:Type}{R:Nat→α→Prop}:∀ (n:Nat),(∀ i,i<n→∃ x,R i x)→∃ xs:List α,xs.length=n∧∀ (i:Nat) x,xs[i]?=some x→R i x
 | 0,_=>⟨[],rfl,fun i x h=>by simp at h⟩
 | n+1,h=>by
  obtain ⟨xs,hl,hx⟩:=aBb n (fun i hi=>h i (by omega))
  obtain ⟨y,hy⟩:=h n (by omega)
  refine ⟨xs++[y],by simp [hl],fun i x hi=>?_⟩
  by_cases hin:i<n
  ·
   rw [List.getElem?_append_left (by omega)] at hi
   exact hx i x hi
  ·
   rw [List.getElem?_append_right (by omega)] at hi
   have:i=n:=by
    have:=(List.getElem?_eq_some_iff.1 hi).1
    simp at this;omega
   subst this
   simp [hl] at hi
   subst hi
   exact hy
theorem xC (b o n:Nat):(⟨b,o,none⟩:Addr).add n=⟨b,o+n,none⟩:=by
 unfold Addr.add
 split
 ·
  rename_i h;subst h;rfl
 ·
  rfl
theorem aIj {W:World}{a:Addr}{u:Value} (h:W.cell? a=some u):a.spot=none∧a.block<W.heap.size:=by
 unfold World.cell? at h
 split at h
 ·
  rename_i c e y hb
  split at h
  ·
   cases h
  ·
   rename_i hs
   exact ⟨by simpa using hs,(Array.getElem?_eq_some_iff.1 hb).1⟩
 ·
  cases h
theorem aBh {H:Type}{P:Program}{e:TypeId}{y:Nat}:∀ {l:List (DataW H)}{d:DataW H},d∈l→y∈d.weights P e→y∈DataW.weightsAll P e l
 | [],d,h,_=>by simp at h
 | d' :: r,d,h,hy=>by
  simp only [DataW.weightsAll,List.mem_append]
  rcases List.mem_cons.1 h with rfl | h
  ·
   exact .inl hy
  ·
   exact .inr (aBh h hy)
theorem vE {H:Type}{P:Program}{y:Nat}:∀ {ts:List TypeId}{ds:List (DataW H)}{i:Nat}{t:TypeId}{d:DataW H},ts[i]?=some t→ds[i]?=some d→y∈d.weights P t→y∈DataW.weightsEach P ts ds
 | [],ds,i,t,d,h,_,_=>by simp at h
 | t' :: ts,[],i,t,d,_,h,_=>by simp at h
 | t' :: ts,d' :: ds,0,t,d,h1,h2,hy=>by
  simp only [List.getElem?_cons_zero,Option.some.injEq] at h1 h2
  subst h1 h2
  simp only [DataW.weightsEach,List.mem_append]
  exact .inl hy
 | t' :: ts,d' :: ds,i+1,t,d,h1,h2,hy=>by
  simp only [List.getElem?_cons_succ] at h1 h2
  simp only [DataW.weightsEach,List.mem_append]
  exact .inr (vE h1 h2 hy)
theorem zE {H:Type}{P:Program}{ts:List TypeId}{ds:List (DataW H)} (h:(DataW.weightsEach P ts ds).all (·≤reachBytes)=true) (i:Nat) {t:TypeId}{d:DataW H} (h1:ts[i]?=some t) (h2:ds[i]?=some d) :
  ∀ y∈d.weights P t,y≤140737488351232:=fun y hy=>by
 have:=List.all_eq_true.1 h y (vE h1 h2 hy)
 simp only [decide_eq_true_eq] at this
 exact this
end Go.Proofs.YtnigjppddilpcaaGreatDoor.Abs
namespace Go.Proofs.YtnigjppddilpcaaGreatDoor.Abs
open Go RowKit
set_option linter.unusedVariables false
set_option linter.unusedSimpArgs false
def aM5 (W:World):G:=⟨old W,[],fun _=>none⟩
theorem aIs {P:Program}{f:FuncId}{args:List AV}{W:World}{vs:Array Value} (hc:bR P f args [] (.c (.bool true)) []) (hv:cO (aM5 W) W vs args) (hg:Glo (old W) W) :
  Calls P f vs W fun e w'=>e=.returned (.bool true)∧Below W.heap.size W w':=by
 have h:=hc.2 W (old W) [] (fun _=>none) vs (fun b o hb=>hb) (by simp) (by simp) (by simp) (by simp) (by simp) rfl (by simp) hv hg
 refine h.mono fun e w' he=>?_
 obtain ⟨v,g',rfl,hi,hr⟩:=he
 obtain ⟨⟩ | _:=hr
 rename_i h
 cases h
 exact ⟨rfl,hi.os,hi.tape,hi.output,hi.size,fun k hk=>hi.old k hk (by simp) (fun h=>by obtain ⟨t,h⟩:=h;cases h)⟩
theorem aG4 {g:G}{w:World}:cO g w #[] []:=⟨rfl,fun i v a h=>by simp at h⟩
theorem wF {g:G}{w:World}{v:Value}{a:AV}{vs:List Value}{as:List AV} (h:fW g w v a) (t:cO g w vs.toArray as):cO g w (v :: vs).toArray (a :: as):=by
 refine ⟨by simpa using t.1,fun i u b hu hb=>?_⟩
 cases i with
 | zero=>simp at hu hb;subst hu;subst hb;exact h
 | succ i=>exact t.2 i u b (by simpa using hu) (by simpa using hb)
end Go.Proofs.YtnigjppddilpcaaGreatDoor.Abs
namespace Go.Proofs.YtnigjppddilpcaaGreatDoor.Abs
open Go
set_option linter.unusedVariables false
set_option linter.unusedSimpArgs false
variable {mo:Bool}
def PV.ls {α:Type} (sz:Nat) (row:α→List PV) (xs:List α):PV:=.list sz (xs.map row)
def AV.os {α:Type} (t sz:Nat) (row:α→List PV) (xs:List α):AV:=.own t sz (xs.map row)
abbrev aI {k:IntKind}{n:Int}:AV:=.c (.int k n)
abbrev aB {b:Bool}:AV:=.c (.bool b)
abbrev aS {s:List UInt8}:AV:=.c (.str s)
abbrev aL {α:Type}{sz:Nat}{row:α→List PV}{xs:List α}:AV:=.c (PV.ls sz row xs)
abbrev aO {α:Type}{t sz:Nat}{row:α→List PV}{xs:List α}:AV:=AV.os t sz row xs
def AV.cs (l:List PV):List AV:=l.map .c
def gv (c:Bool) (v:AV):AV:=if c then v else .tup []
theorem gx {c:Bool}{x v:AV} (h:x=gv c v) (hc:c=true):x=v:=by rw [h,gv,if_pos hc]
def isl {α:Type} (a:AV) (sz:Nat) (row:α→List PV) (xs:List α):Prop:=a=.c (PV.ls sz row xs)∨∃ t,a=.os t sz row xs
theorem cZ {α:Type}{a:AV}{sz:Nat}{row:α→List PV}{xs:List α} (h:a=.c (PV.ls sz row xs)):isl a sz row xs:=.inl h
theorem qF {α:Type}{a:AV}{t sz:Nat}{row:α→List PV}{xs:List α} (h:a=.os t sz row xs):isl a sz row xs:=.inr ⟨t,h⟩
def Pv (P:Program) (o:Oper) (ev:Operand→AV) (σ:St) (v:AV):Prop:=∀ K:Option (Nat→Bool)→AV→St→Prop,K .none v σ→vW P o ev σ K
def pT (o:Oper):Bool:=match o.op with | .call { callee:=.value _,.. }=>false | _=>(rM o).isNone
theorem lO {P:Program}{o:Oper}{fr:Fr}{σ:St}{K:Fr→St→Prop} (hp:pT o=true) (h:vW P o fr.ev σ fun dm v σ'=>K ((fr.demo dm).put o.dst v) σ'):aop P o fr σ K:=by
 unfold pT at hp
 unfold aop
 split at hp
 ·
  cases hp
 ·
  rename_i hno
  split
  ·
   rename_i f args argTypes hop
   exact absurd hop (hno _ _ _)
  ·
   split
   ·
    rename_i hn;rw [hn] at hp;cases hp
   ·
    exact h
theorem aGz {P:Program}{o:Oper}{fr:Fr}{σ:St}{K:AV→Prop} (hp:pT o=true) (h:vW P o fr.ev σ (QQ σ K)):aH8 P o fr σ K:=by
 unfold pT at hp
 unfold aH8
 split at hp
 ·
  cases hp
 ·
  rename_i hno
  split
  ·
   rename_i f args argTypes hop
   exact absurd hop (hno _ _ _)
  ·
   exact h
def xX (ops:List Oper) (j:Nat):Option Nat:=(ops[j]?).bind (·.dst)
theorem aKy {ops:List Oper}{o:Oper}{j dj:Nat}{w b:Bool}{get:Nat→AV}{yes no:Prop} (hg:o.guard=some (j,w)) (hj:xX ops j=some dj) (hs:get dj=.c (.bool b)) (hy:b=w→yes) (hn:b≠w→no):iG ops o get yes no:=by
 unfold xX at hj
 obtain ⟨p,hp,hd⟩:=Option.bind_eq_some_iff.1 hj
 unfold iG
 rw [hg]
 simp only [hp,hd,hs]
 exact ⟨hy,hn⟩
theorem aNK {ops:List Oper}{o:Oper}{j dj:Nat}{w:Bool}{get:Nat→AV}{yes no:Prop} (hg:o.guard=some (j,w)) (hj:xX ops j=some dj) (hs:get dj=.tup []) (hn:no):iG ops o get yes no:=by
 unfold xX at hj
 obtain ⟨p,hp,hd⟩:=Option.bind_eq_some_iff.1 hj
 unfold iG
 rw [hg]
 simp only [hp,hd,hs]
 exact hn
section
variable {P:Program}{all r:List Oper}{d dj j:Nat}{op:Op}{ty:TypeId}{pos:String}{af:Array Edge}{fr:Fr}{σ:St}{K:Fr→St→Prop}{Kq:Fr→Prop}{v:AV}{b c w:Bool}
theorem aQ (hp:pT ⟨some d,op,ty,pos,af,none⟩=true) (hv:Pv P ⟨some d,op,ty,pos,af,none⟩ fr.ev σ v) (h:eZ mo P all r ((d,v) :: fr) σ K):eZ mo P all (⟨some d,op,ty,pos,af,none⟩ :: r) fr σ K:=aEh <|
 lO hp (hv _ h)
def Qv (P:Program) (o:Oper) (fr:Fr) (σ:St) (v:AV):Prop:=∀ K:AV→Prop,K v→aH8 P o fr σ K
theorem rA {o:Oper} (hp:pT o=true) (hv:Pv P o fr.ev σ v):Qv P o fr σ v:=fun K h=>aGz hp (hv _ ⟨rfl,rfl,h⟩)
def Ov (P:Program) (o:Oper) (fr:Fr) (σ:St) (v:AV):Prop:=∀ K:Fr→St→Prop,K (fr.put o.dst v) σ→aop P o fr σ K
theorem eW {o:Oper} (hp:pT o=true) (hv:Pv P o fr.ev σ v):Ov P o fr σ v:=fun K h=>lO hp (hv _ h)
theorem vQ (hj:xX all j=some dj) (hs:fr.get dj=.c (.bool b)) (hv:(b==w)=true→Ov P ⟨some d,op,ty,pos,af,some (j,w)⟩ fr σ v) (h:eZ mo P all r ((d,gv (b==w) v) :: fr) σ K):eZ mo P all (⟨some d,op,ty,pos,af,some (j,w)⟩ :: r) fr σ K:=by
 refine aKy rfl hj hs (fun e=>?_) (fun e=>?_)
 ·
  have e':(b==w)=true:=by simp [e]
  refine aEh (hv e' _ ?_)
  rw [e',gv,if_pos rfl] at h
  exact h
 ·
  have e':(b==w)=false:=by simpa using e
  rw [e',gv,if_neg (by simp)] at h
  exact h
theorem eJ (hj:xX all j=some dj) (hs:fr.get dj=gv c (.c (.bool b))) (hv:(c&&(b==w))=true→Ov P ⟨some d,op,ty,pos,af,some (j,w)⟩ fr σ v) (h:eZ mo P all r ((d,gv (c&&(b==w)) v) :: fr) σ K):eZ mo P all (⟨some d,op,ty,pos,af,some (j,w)⟩ :: r) fr σ K:=by
 cases c with
 | true =>
  rw [Bool.true_and] at h hv
  exact vQ hj (by rw [hs,gv,if_pos rfl]) hv h
 | false =>
  rw [gv,if_neg (by simp)] at hs
  rw [Bool.false_and,gv,if_neg (by simp)] at h
  exact aNK rfl hj hs h
theorem aDA {dst:Option Tmp}{g g':Option (Nat × Bool)}:aop P ⟨dst,op,ty,pos,af,g⟩ fr σ K=aop P ⟨dst,op,ty,pos,af,g'⟩ fr σ K:=by
 cases op
 case call c=>obtain ⟨callee,args,argTypes⟩:=c;cases callee <;> first | rfl | (rename_i b;cases b <;> rfl)
 case slice t x lo hi mx=>cases mx <;> rfl
 case makeFunc fn f cs=>cases fn <;> rfl
 all_goals rfl
theorem aGv {dst:Option Tmp}{g g':Option (Nat × Bool)}:aBU P ⟨dst,op,ty,pos,af,g⟩ fr σ K=aBU P ⟨dst,op,ty,pos,af,g'⟩ fr σ K:=by
 have h1:∀ fr σ,aGp P ⟨dst,op,ty,pos,af,g⟩ fr σ K=aGp P ⟨dst,op,ty,pos,af,g'⟩ fr σ K:=fun fr σ=>by cases op <;> rfl
 have h2:∀ fr σ,aop P ⟨dst,op,ty,pos,af,g⟩ fr σ K=aop P ⟨dst,op,ty,pos,af,g'⟩ fr σ K:=fun fr σ=>aDA
 have h3:∀ fr σ,aEe P ⟨dst,op,ty,pos,af,g⟩ fr σ K=aEe P ⟨dst,op,ty,pos,af,g'⟩ fr σ K:=fun fr σ=>by cases op <;> rfl
 simp only [aBU,h1,h2,h3]
theorem aGu {dst:Option Tmp}{g g':Option (Nat × Bool)}:aKA mo P ⟨dst,op,ty,pos,af,g⟩ fr σ K=aKA mo P ⟨dst,op,ty,pos,af,g'⟩ fr σ K:=by
 cases mo
 ·
  exact aDA
 ·
  exact aGv
theorem qU {dst:Option Tmp} (hj:xX all j=some dj) (hs:fr.get dj=.c (.bool b)) (hb:b=w) (h:eZ mo P all (⟨dst,op,ty,pos,af,none⟩ :: r) fr σ K):eZ mo P all (⟨dst,op,ty,pos,af,some (j,w)⟩ :: r) fr σ K :=
 aKy rfl hj hs (fun _=>by rw [aGu (g':=none)];exact h) (fun e=>absurd hb e)
theorem aMo {dst:Option Tmp} (hj:xX all j=some dj) (hs:fr.get dj=.c (.bool b)) (hb:b=!w) (h:eZ mo P all r (fr.put dst (.tup [])) σ K):eZ mo P all (⟨dst,op,ty,pos,af,some (j,w)⟩ :: r) fr σ K :=
 aKy rfl hj hs (fun e=>by subst e;cases b <;> simp at hb) (fun _=>h)
end
section
variable {P:Program}{d:Option Tmp}{ty:TypeId}{pos:String}{af:Array Edge}{gd:Option (Nat × Bool)}{ev:Operand→AV}{σ:St}{x y z:Operand}{t t2:TypeId}{k k':IntKind}{a b:Int}{v:AV}
theorem aU (hx:ev x=v):Pv P ⟨d,.move x,ty,pos,af,gd⟩ ev σ v:=fun K h=>by (refine .inl ?_;simp only [bN]);rw [hx];exact h
theorem zZ (hx:ev x=v):Pv P ⟨d,.assign x,ty,pos,af,gd⟩ ev σ v:=fun K h=>by (refine .inl ?_;simp only [bN]);rw [hx];exact h
theorem aJT {q p1 p2:Bool} (hx:ev x=.c (.bool q)) (hy:ev y=.c (.bool p1)) (hz:ev z=.c (.bool p2)):Pv P ⟨d,.pick x y z,ty,pos,af,gd⟩ ev σ (.c (.bool (cond q p1 p2))):=fun K h=>by
 (refine .inl ?_;simp only [bN,hx,hy,hz])
 cases q <;> exact h
theorem bS {q p1 p2 c:Bool} (hx:ev x=.c (.bool q)) (hy:ev y=gv c (.c (.bool p1))) (hz:ev z=.c (.bool p2)) (hc:q=true→c=true):Pv P ⟨d,.pick x y z,ty,pos,af,gd⟩ ev σ (.c (.bool (cond q p1 p2))):=by
 cases c with
 | true=>exact aJT hx (by rw [hy,gv,if_pos rfl]) hz
 | false =>
  cases q with
  | true=>cases hc rfl
  | false =>
   intro K h
   (refine .inl ?_;simp only [bN,hx,hy,hz,gv,if_neg (show ¬(false=true) by simp)])
   exact ⟨fun e=>(by cases e),fun _=>h⟩
theorem cB {q p1 p2 c:Bool} (hx:ev x=.c (.bool q)) (hy:ev y=.c (.bool p1)) (hz:ev z=gv c (.c (.bool p2))) (hc:q=false→c=true):Pv P ⟨d,.pick x y z,ty,pos,af,gd⟩ ev σ (.c (.bool (cond q p1 p2))):=by
 cases c with
 | true=>exact aJT hx hy (by rw [hz,gv,if_pos rfl])
 | false =>
  cases q with
  | false=>cases hc rfl
  | true =>
   intro K h
   (refine .inl ?_;simp only [bN,hx,hy,hz,gv,if_neg (show ¬(false=true) by simp)])
   exact ⟨fun _=>h,fun e=>(by cases e)⟩
theorem aP {id off n:Nat}{cs:List AV} (ht:fA P t=some (false,n)) (hx:ev x=.box id off) (hs:σ[id]?=some cs) (hc:cs[off]?=some v):Pv P ⟨d,.load t x,ty,pos,af,gd⟩ ev σ v:=fun K h=>by
 (refine .inl ?_;simp only [bN,ht,hx,pZ,hs,hc]);exact h
theorem dF {id off n:Nat}{cs us:List AV} (ht:fA P t=some (true,n)) (hx:ev x=.box id off) (hs:σ[id]?=some cs) (hn:Nat.ble (off+n) cs.length=true) (hc:(cs.drop off).take n=us):Pv P ⟨d,.load t x,ty,pos,af,gd⟩ ev σ (.agg us):=fun K h=>by
 (refine .inl ?_;simp only [bN,ht,hx,pZ,hs]);subst hc;exact ⟨by rw [Nat.ble_eq] at hn;exact hn,h⟩
theorem fV {off n:Nat}{cs:List PV}{p:PV} (ht:fA P t=some (false,n)) (hx:ev x=.eptr cs off) (hc:cs[off]?=some p):Pv P ⟨d,.load t x,ty,pos,af,gd⟩ ev σ (.c p):=fun K h=>by
 (refine .inl ?_;simp only [bN,ht,hx,pZ,hc]);exact h
theorem iL {off n:Nat}{cs us:List PV} (ht:fA P t=some (true,n)) (hx:ev x=.eptr cs off) (hn:Nat.ble (off+n) cs.length=true) (hc:(cs.drop off).take n=us):Pv P ⟨d,.load t x,ty,pos,af,gd⟩ ev σ (.agg (AV.cs us)):=fun K h=>by
 (refine .inl ?_;simp only [bN,ht,hx,pZ]);subst hc;exact ⟨by rw [Nat.ble_eq] at hn;exact hn,h⟩
theorem eE {n:Nat}{p:Nat × Nat} (ht:fA P t=some (false,n)) (hx:ev x=.pptr p):Pv P ⟨d,.load t x,ty,pos,af,gd⟩ ev σ (.box p.1 p.2):=fun K h=>by
 (refine .inl ?_;simp only [bN,ht,hx,pZ]);exact ⟨trivial,h⟩
theorem eQ {i m:Nat} (hx:ev x=.box i m):Pv P ⟨d,.nilCheck x,ty,pos,af,gd⟩ ev σ (.box i m):=fun K h=>by (refine .inl ?_;simp only [bN,hx]);exact h
theorem dR (hx:ev x=.c (.int k a)) (hy:ev y=.c (.int k b)):Pv P ⟨d,.binOp .add t x y t2,ty,pos,af,gd⟩ ev σ (.c (.int k (k.wrap (a+b)))):=fun K h=>by (refine .inl ?_;simp only [bN,oF,hx,hy]);exact ⟨trivial,h⟩
theorem aHD (hx:ev x=.c (.int k a)) (hy:ev y=.c (.int k b)):Pv P ⟨d,.binOp .sub t x y t2,ty,pos,af,gd⟩ ev σ (.c (.int k (k.wrap (a - b)))):=fun K h=>by (refine .inl ?_;simp only [bN,oF,hx,hy]);exact ⟨trivial,h⟩
theorem aLS (hx:ev x=.c (.int k a)) (hy:ev y=.c (.int k b)):Pv P ⟨d,.binOp .mul t x y t2,ty,pos,af,gd⟩ ev σ (.c (.int k (k.wrap (a*b)))):=fun K h=>by (refine .inl ?_;simp only [bN,oF,hx,hy]);exact ⟨trivial,h⟩
theorem aLT (hx:ev x=.c (.int k a)) (hy:ev y=.c (.int k b)) (h0:b≠0):Pv P ⟨d,.binOp .quo t x y t2,ty,pos,af,gd⟩ ev σ (.c (.int k (k.wrap (a.tdiv b)))):=fun K h=>by (refine .inl ?_;simp only [bN,oF,hx,hy]);exact ⟨trivial,h0,h⟩
theorem bX (hx:ev x=.c (.int k a)) (hy:ev y=.c (.int k b)):Pv P ⟨d,.binOp .eql t x y t2,ty,pos,af,gd⟩ ev σ (.c (.bool (decide (a=b)))):=fun K h=>by (refine .inl ?_;simp only [bN,oF,hx,hy]);exact ⟨trivial,h⟩
theorem fU (hx:ev x=.c (.int k a)) (hy:ev y=.c (.int k b)):Pv P ⟨d,.binOp .neq t x y t2,ty,pos,af,gd⟩ ev σ (.c (.bool (!decide (a=b)))):=fun K h=>by (refine .inl ?_;simp only [bN,oF,hx,hy]);exact ⟨trivial,h⟩
theorem dU (hx:ev x=.c (.int k a)) (hy:ev y=.c (.int k b)):Pv P ⟨d,.binOp .lss t x y t2,ty,pos,af,gd⟩ ev σ (.c (.bool (decide (a<b)))):=fun K h=>by (refine .inl ?_;simp only [bN,oF,hx,hy]);exact ⟨trivial,h⟩
theorem tN (hx:ev x=.c (.int k a)) (hy:ev y=.c (.int k b)):Pv P ⟨d,.binOp .leq t x y t2,ty,pos,af,gd⟩ ev σ (.c (.bool (decide (a≤b)))):=fun K h=>by (refine .inl ?_;simp only [bN,oF,hx,hy]);exact ⟨trivial,h⟩
theorem nO (hx:ev x=.c (.int k a)) (hy:ev y=.c (.int k b)):Pv P ⟨d,.binOp .gtr t x y t2,ty,pos,af,gd⟩ ev σ (.c (.bool (decide (b<a)))):=fun K h=>by (refine .inl ?_;simp only [bN,oF,hx,hy]);exact ⟨trivial,h⟩
theorem qJ (hx:ev x=.c (.int k a)) (hy:ev y=.c (.int k b)):Pv P ⟨d,.binOp .geq t x y t2,ty,pos,af,gd⟩ ev σ (.c (.bool (decide (b≤a)))):=fun K h=>by (refine .inl ?_;simp only [bN,oF,hx,hy]);exact ⟨trivial,h⟩
theorem aJR (hx:ev x=.c (.int k a)) (hy:ev y=.c (.int k b)):Pv P ⟨d,.binOp .and t x y t2,ty,pos,af,gd⟩ ev σ (.c (.int k (eT .and k a b))):=fun K h=>by (refine .inl ?_;simp only [bN,oF,hx,hy]);exact ⟨trivial,h⟩
theorem aNe (hx:ev x=.c (.int k a)) (hy:ev y=.c (.int k b)):Pv P ⟨d,.binOp .or t x y t2,ty,pos,af,gd⟩ ev σ (.c (.int k (eT .or k a b))):=fun K h=>by (refine .inl ?_;simp only [bN,oF,hx,hy]);exact ⟨trivial,h⟩
theorem aHE (hx:ev x=.c (.int k a)) (hy:ev y=.c (.int k b)):Pv P ⟨d,.binOp .xor t x y t2,ty,pos,af,gd⟩ ev σ (.c (.int k (eT .xor k a b))):=fun K h=>by (refine .inl ?_;simp only [bN,oF,hx,hy]);exact ⟨trivial,h⟩
theorem aLU (hx:ev x=.c (.int k a)) (hy:ev y=.c (.int k' b)) (h0:0≤b):Pv P ⟨d,.binOp .shl t x y t2,ty,pos,af,gd⟩ ev σ (.c (.int k (k.wrap (a*2 ^ (min b.toNat k.bits))))):=fun K h=>by (refine .inl ?_;simp only [bN,oF,hx,hy]);exact ⟨h0,h⟩
theorem aCs (hx:ev x=.c (.int k a)) (hy:ev y=.c (.int k' b)) (h0:0≤b):Pv P ⟨d,.binOp .shr t x y t2,ty,pos,af,gd⟩ ev σ (.c (.int k (a.fdiv (2 ^ (min b.toNat k.bits))))):=fun K h=>by (refine .inl ?_;simp only [bN,oF,hx,hy]);exact ⟨h0,h⟩
theorem uJ {s u:List UInt8} (hx:ev x=.c (.str s)) (hy:ev y=.c (.str u)):Pv P ⟨d,.binOp .eql t x y t2,ty,pos,af,gd⟩ ev σ (.c (.bool (decide (s=u)))):=fun K h=>by (refine .inl ?_;simp only [bN,oF,hx,hy]);exact h
theorem yP {s u:List UInt8} (hx:ev x=.c (.str s)) (hy:ev y=.c (.str u)):Pv P ⟨d,.binOp .neq t x y t2,ty,pos,af,gd⟩ ev σ (.c (.bool (!decide (s=u)))):=fun K h=>by (refine .inl ?_;simp only [bN,oF,hx,hy]);exact h
theorem aMw {s u:List UInt8} (hx:ev x=.c (.str s)) (hy:ev y=.c (.str u)):Pv P ⟨d,.binOp .gtr t x y t2,ty,pos,af,gd⟩ ev σ (.c (.bool (!(Op.bytesLess s u||decide (s=u))))):=fun K h=>by (refine .inl ?_;simp only [bN,oF,hx,hy]);exact h
theorem aMv {s u:List UInt8} (hx:ev x=.c (.str s)) (hy:ev y=.c (.str u)):Pv P ⟨d,.binOp .geq t x y t2,ty,pos,af,gd⟩ ev σ (.c (.bool (!Op.bytesLess s u))):=fun K h=>by (refine .inl ?_;simp only [bN,oF,hx,hy]);exact h
theorem aG0 {i m:Nat} (ht:eR P t=5) (hx:ev x=.box i m) (hy:ev y=.nilptr):Pv P ⟨d,.binOp .eql t x y t2,ty,pos,af,gd⟩ ev σ (.c (.bool false)):=fun K h=>by (refine .inl ?_;simp only [bN,oF,hx,hy]);exact ⟨ht,h⟩
theorem eU {p:Bool} (hx:ev x=.c (.bool p)):Pv P ⟨d,.unOp .not t x,ty,pos,af,gd⟩ ev σ (.c (.bool (!p))):=fun K h=>by (refine .inl ?_;simp only [bN,hx]);exact h
theorem aNd (hx:ev x=.c (.int k a)):Pv P ⟨d,.unOp .neg t x,ty,pos,af,gd⟩ ev σ (.c (.int k (k.wrap (0 - a)))):=fun K h=>by (refine .inl ?_;simp only [bN,hx]);exact h
theorem pL {kd ks:IntKind} (hs:sD P t=some ks) (hd:sD P t2=some kd) (hx:ev x=.c (.int k a)):Pv P ⟨d,.convert t t2 x,ty,pos,af,gd⟩ ev σ (.c (.int kd (kd.wrap a))):=fun K h=>by (refine .inl ?_;simp only [bN,hx,hd,hs]);exact h
theorem aJS {sz:Nat}{xs:List UInt8} (hs:bN.tyBytes P t) (hd:eR P t2=2) (hx:isl (ev x) sz eD xs):Pv P ⟨d,.convert t t2 x,ty,pos,af,gd⟩ ev σ (.c (.str xs)):=fun K h=>by
 rcases hx with hx | ⟨_,hx⟩ <;> (refine .inl ?_;simp only [bN,hx,PV.ls,AV.os]) <;> exact ⟨hs,hd,xs,rfl,h⟩
theorem aMt {f:FuncId}{first captured:Array Operand}{cs:List AV} (hf:first=#[]) (hc:captured.toList.map ev=cs):Pv P ⟨d,.makeFunc (.func f) first captured,ty,pos,af,gd⟩ ev σ (.fn f cs):=fun K h=>by
 (refine .inl ?_;simp only [bN]);subst hc;exact ⟨hf,h⟩
theorem b_l {n:Nat}{a:AV}{l:Int}{kk:Nat→Nat→Prop} (ha:a=.c (.int k l)) (h0:0≤l∧l≤n) (h:kk l.toNat n):kC (some a) .none n kk:=by subst ha;exact ⟨h0.1,h0.2,h⟩
theorem b_h {n:Nat}{a:AV}{l:Int}{kk:Nat→Nat→Prop} (ha:a=.c (.int k l)) (h0:0≤l∧l≤n) (h:kk 0 l.toNat):kC .none (some a) n kk:=by subst ha;exact ⟨h0.1,h0.2,h⟩
theorem b_b {n:Nat}{a a':AV}{l l':Int}{kk:Nat→Nat→Prop} (ha:a=.c (.int k l)) (ha':a'=.c (.int k' l')) (h0:0≤l∧l≤l'∧l'≤n) (h:kk l.toNat l'.toNat):kC (some a) (some a') n kk:=by subst ha;subst ha';exact ⟨h0.1,h0.2.1,h0.2.2,h⟩
theorem aMx {α:Type}{e:TypeId}{sz by_:Nat}{row:α→List PV}{xs:List α}{l h:Nat}{lo hi:Option Operand} (h7:eR P t≠7) (ht:fO P t=some (e,sz,by_)) (hx:isl (ev x) sz row xs)
  (hb:∀ kk:Nat→Nat→Prop,kk l h→kC (lo.map ev) (hi.map ev) xs.length kk):Pv P ⟨d,.slice t x lo hi .none,ty,pos,af,gd⟩ ev σ (.c (PV.ls sz row ((xs.take h).drop l))):=fun K hk=>by
 have e1:PV.ls sz row ((xs.take h).drop l)=.list sz (((xs.map row).take h).drop l):=by simp [PV.ls,List.map_take,List.map_drop]
 rw [e1] at hk
 rcases hx with hx | ⟨t0,hx⟩ <;> (refine .inl ?_;simp only [bN,hx,PV.ls,AV.os,tY,ht]) <;> exact ⟨h7,trivial,by rw [List.length_map];exact hb _ hk⟩
theorem aJW {α:Type}{e:TypeId}{sz by_:Nat}{row:α→List PV}{xs:List α}{l:Int} (h7:eR P t≠7) (ht:fO P t=some (e,sz,by_)) (hx:isl (ev x) sz row xs) (hy:ev y=.c (.int k l)) (h0:0≤l∧l≤xs.length):Pv P ⟨d,.slice t x (some y) .none .none,ty,pos,af,gd⟩ ev σ (.c (PV.ls sz row (xs.drop l.toNat))):=by
 have:=aMx (d:=d) (ty:=ty) (pos:=pos) (af:=af) (gd:=gd) (σ:=σ) (l:=l.toNat) (h:=xs.length) (lo:=some y) (hi:=.none) h7 ht hx (fun kk=>b_l hy h0)
 simpa using this
theorem aJV {α:Type}{e:TypeId}{sz by_:Nat}{row:α→List PV}{xs:List α}{l:Int} (h7:eR P t≠7) (ht:fO P t=some (e,sz,by_)) (hx:isl (ev x) sz row xs) (hy:ev y=.c (.int k l)) (h0:0≤l∧l≤xs.length):Pv P ⟨d,.slice t x .none (some y) .none,ty,pos,af,gd⟩ ev σ (.c (PV.ls sz row (xs.take l.toNat))):=by
 have:=aMx (d:=d) (ty:=ty) (pos:=pos) (af:=af) (gd:=gd) (σ:=σ) (l:=0) (h:=l.toNat) (lo:=.none) (hi:=some y) h7 ht hx (fun kk=>b_h hy h0)
 simpa using this
theorem aMy {α:Type}{e:TypeId}{sz by_:Nat}{row:α→List PV}{xs:List α}{l h:Int} (h7:eR P t≠7) (ht:fO P t=some (e,sz,by_)) (hx:isl (ev x) sz row xs) (hy:ev y=.c (.int k l)) (hz:ev z=.c (.int k' h)) (h0:0≤l∧l≤h∧h≤xs.length):Pv P ⟨d,.slice t x (some y) (some z) .none,ty,pos,af,gd⟩ ev σ (.c (PV.ls sz row ((xs.take h.toNat).drop l.toNat))) :=
 aMx (l:=l.toNat) (h:=h.toNat) (lo:=some y) (hi:=some z) h7 ht hx (fun kk=>b_b hy hz h0)
theorem eX {α:Type}{sz:Nat}{row:α→List PV}{xs:List α} (ht:eR P t=3) (hx:isl (ev x) sz row xs):Pv P ⟨d,.call { callee:=.builtin .len,args:=#[x],argTypes:=#[t] },ty,pos,af,gd⟩ ev σ (.c (.int .i64 xs.length)):=fun K h=>by
 rcases hx with hx | ⟨_,hx⟩ <;> (refine .inl ?_;simp only [bN,hx,aAB,PV.ls,AV.os,List.length_map]) <;> exact ⟨ht,h⟩
theorem jT {s:List UInt8} (ht:eR P t=2) (hx:ev x=.c (.str s)):Pv P ⟨d,.call { callee:=.builtin .len,args:=#[x],argTypes:=#[t] },ty,pos,af,gd⟩ ev σ (.c (.int .i64 s.length)):=fun K h=>by (refine .inl ?_;simp only [bN,hx,aAB]);exact ⟨ht,h⟩
theorem aED {l:List (Nat × Nat)} (ht:eR P t=3) (hx:ev x=.ptrs l):Pv P ⟨d,.call { callee:=.builtin .len,args:=#[x],argTypes:=#[t] },ty,pos,af,gd⟩ ev σ (.c (.int .i64 l.length)):=fun K h=>by (refine .inl ?_;simp only [bN,hx,aAB]);exact ⟨ht,h⟩
theorem aNc {ts:Array TypeId} (hx:ev x=.c (.int k a)) (hy:ev y=.c (.int k' b)):Pv P ⟨d,.call { callee:=.builtin .max,args:=#[x,y],argTypes:=ts },ty,pos,af,gd⟩ ev σ (.c (.int k (if b > a then b else a))):=fun K h=>by (refine .inl ?_;simp only [bN,hx,hy]);exact h
theorem bF {f k0 n id off:Nat}{ag:Bool} (ht:dC P t f=some (k0,ag,n)) (hx:ev x=.box id off):Pv P ⟨d,.fieldAddr t x f,ty,pos,af,gd⟩ ev σ (.box id (off+k0)):=fun K h=>by (refine .inl ?_;simp only [bN,ht,hx]);exact h
theorem aBe {f k0 n off:Nat}{ag:Bool}{cs:List PV} (ht:dC P t f=some (k0,ag,n)) (hx:ev x=.eptr cs off):Pv P ⟨d,.fieldAddr t x f,ty,pos,af,gd⟩ ev σ (.eptr cs (off+k0)):=fun K h=>by (refine .inl ?_;simp only [bN,ht,hx]);exact h
theorem jS {α:Type}{e:TypeId}{sz by_:Nat}{row:α→List PV}{xs:List α}{i:Int}{u:α}{cs:List PV} (ht:fO P t=some (e,sz,by_)) (hx:isl (ev x) sz row xs) (hy:ev y=.c (.int k i)) (hg:gR xs i=some u) (he:row u=cs):Pv P ⟨d,.indexAddr t x y,ty,pos,af,gd⟩ ev σ (.eptr cs 0):=fun K h=>by
 obtain ⟨h0,h1,h2⟩:=qE hg
 subst he
 have key:∀ r,(xs.map row)[i.toNat]?=some r→K .none (.eptr r 0) σ:=fun r hr=>by
  rw [List.getElem?_map,h2] at hr
  simp at hr
  subst hr
  exact h
 rcases hx with hx | ⟨_,hx⟩ <;> (refine .inl ?_;simp only [bN,ht,hx,hy,PV.ls,AV.os]) <;> exact ⟨trivial,h0,by rw [List.length_map];exact h1,key⟩
theorem gJ {e:TypeId}{by_:Nat}{l:List (Nat × Nat)}{i:Int}{p:Nat × Nat} (ht:fO P t=some (e,1,by_)) (hx:ev x=.ptrs l) (hy:ev y=.c (.int k i)) (hg:gR l i=some p):Pv P ⟨d,.indexAddr t x y,ty,pos,af,gd⟩ ev σ (.pptr p):=fun K h=>by
 obtain ⟨h0,h1,h2⟩:=qE hg
 (refine .inl ?_;simp only [bN,ht,hx,hy])
 exact ⟨trivial,h0,h1,fun q hq=>by rw [h2] at hq;cases hq;exact h⟩
theorem aCr {s:List UInt8}{i:Int}{u:UInt8} (ht:eR P t=2) (hx:ev x=.c (.str s)) (hy:ev y=.c (.int k i)) (hg:gR s i=some u):Pv P ⟨d,.index t x y,ty,pos,af,gd⟩ ev σ (.c (.int .u8 u.toNat)):=fun K h=>by
 obtain ⟨h0,h1,h2⟩:=qE hg
 (refine .inl ?_;simp only [bN,hx,hy])
 exact ⟨ht,h0,h1,fun q hq=>by rw [h2] at hq;cases hq;exact h⟩
theorem xP {vs:List AV}{i:Nat} (hx:ev x=.tup vs) (hv:vs[i]?=some v):Pv P ⟨d,.extract x i,ty,pos,af,gd⟩ ev σ v:=fun K h=>by (refine .inl ?_;simp only [bN,hx,hv]);exact h
def tW (places:Nat→Option (Nat × Nat)) (ev:Operand→AV):List AV→List (Nat × Operand)→Option (List AV)
 | cs,[]=>some cs
 | cs,(i,x) :: r=>match places i with
  | some (off,n)=>if (ev x).solid&&(ev x).cells.length==n&&Nat.ble (off+n) cs.length then tW places ev (cs.take off++((ev x).cells++cs.drop (off+n))) r else .none
  | _=>.none
theorem aDz {places:Nat→Option (Nat × Nat)} (hp:∀ i,jO P t i=places i):∀ (parts:List (Nat × Operand)) (cs us:List AV),tW places ev cs parts=some us→xT P t ev cs parts=some us
 | [],cs,us,h=>h
 | (i,x) :: r,cs,us,h=>by
  simp only [tW] at h
  simp only [xT,hp i]
  split at h
  ·
   rename_i off n hpl
   rw [hpl]
   simp only
   split at h
   ·
    rename_i hc
    simp only [Bool.and_eq_true,beq_iff_eq,Nat.ble_eq] at hc
    rw [if_pos ⟨hc.1.1,hc.1.2,hc.2⟩,List.append_assoc]
    exact aDz hp r _ _ h
   ·
    cases h
  ·
   cases h
theorem eI {parts:Array (Nat × Operand)}{z:List Value}{places:Nat→Option (Nat × Nat)}{cs:List AV} (h6:eR P t=6∧aBr P t=true∧gK P t=some z∧∀ i,jO P t i=places i) (hc:tW places ev (z.map AV.ofFlat) parts.toList=some cs):Pv P ⟨d,.build t parts,ty,pos,af,gd⟩ ev σ (.agg cs):=fun K h=>by
 (refine .inl ?_;simp only [bN,h6.2.2.1,aDz h6.2.2.2 _ _ _ hc])
 exact ⟨h6.1,h6.2.1,h⟩
theorem rK {places:Nat→Option (Nat × Nat)}{cs:List AV}:tW places ev cs []=some cs:=rfl
theorem kJ {places:Nat→Option (Nat × Nat)}{cs cs' us out:List AV}{i off n:Nat}{v:AV}{r:List (Nat × Operand)} (hp:places i=some (off,n)) (hv:ev x=v) (hs:v.solid=true) (hu:v.cells=us) (hl:(us.length==n&&Nat.ble (off+n) cs.length)=true) (hc:cs.take off++(us++cs.drop (off+n))=cs')
  (t:tW places ev cs' r=some out):tW places ev cs ((i,x) :: r)=some out:=by
 simp only [tW,hp,hv,hs,hu,Bool.true_and]
 rw [if_pos hl,hc]
 exact t
theorem rS {parts:Array (Nat × Operand)}{z:List Value}{places:Nat→Option (Nat × Nat)}{c0 cs:List AV} (h6:eR P t=6∧aBr P t=true∧gK P t=some z∧∀ i,jO P t i=places i) (h0:z.map AV.ofFlat=c0) (hc:tW places ev c0 parts.toList=some cs):Pv P ⟨d,.build t parts,ty,pos,af,gd⟩ ev σ (.agg cs):=by
 subst h0;exact eI h6 hc
end
end Go.Proofs.YtnigjppddilpcaaGreatDoor.Abs
namespace Go.Proofs.YtnigjppddilpcaaGreatDoor.Abs
open Go
set_option linter.unusedVariables false
set_option linter.unusedSimpArgs false
variable {mo:Bool}
theorem yL {a b:Nat} (h:Nat.blt a b=true):a<b:=by rw [Nat.blt_eq] at h;exact h
theorem yK {a b:Nat} (h:Nat.ble a b=true):a≤b:=by rw [Nat.ble_eq] at h;exact h
def leP:List AV→List AV→Prop
 | [],[]=>True
 | a :: as,b :: bs=>a.le b∧leP as bs
 | _,_=>False
theorem tD:∀ {as bs:List AV},leP as bs→AV.leL as bs
 | [],[],_=>.nil
 | a :: as,b :: bs,h=>.cons h.1 (tD h.2)
 | [],_ :: _,h=>h.elim
 | _ :: _,[],h=>h.elim
def leC:List AV→List PV→Prop
 | [],[]=>True
 | .c p :: as,q :: qs=>p=q∧leC as qs
 | .own _ sz xs :: as,q :: qs=>PV.list sz xs=q∧leC as qs
 | .nil :: as,q :: qs=>(∃ sz,q=.list sz [])∧leC as qs
 | _,_=>False
theorem aCd:∀ {as:List AV}{ps:List PV},leC as ps→AV.leL as (AV.cs ps)
 | [],[],_=>.nil
 | .c p :: as,q :: qs,h=>.cons (by simp only [leC] at h;rw [h.1];exact AV.le_refl _) (aCd (by simp only [leC] at h;exact h.2))
 | .own t sz xs :: as,q :: qs,h=>.cons (by simp only [leC] at h;rw [← h.1];exact AV.le_own_list _ _ _) (aCd (by simp only [leC] at h;exact h.2))
 | .nil :: as,q :: qs,h=>.cons (by simp only [leC] at h;obtain ⟨⟨sz,rfl⟩,_⟩:=h;exact AV.le_nil_list sz) (aCd (by simp only [leC] at h;exact h.2))
 | [],_ :: _,h=>by simp [leC] at h
 | .c _ :: _,[],h=>by simp [leC] at h
 | .own .. :: _,[],h=>by simp [leC] at h
 | .nil :: _,[],h=>by simp [leC] at h
 | .agg _ :: _,_,h=>by simp [leC] at h
 | .tup _ :: _,_,h=>by simp [leC] at h
 | .box .. :: _,_,h=>by simp [leC] at h
 | .eptr .. :: _,_,h=>by simp [leC] at h
 | .ptrs _ :: _,_,h=>by simp [leC] at h
 | .view .. :: _,_,h=>by simp [leC] at h
 | .mrow .. :: _,_,h=>by simp [leC] at h
 | .mptr .. :: _,_,h=>by simp [leC] at h
 | .pptr _ :: _,_,h=>by simp [leC] at h
 | .fn .. :: _,_,h=>by simp [leC] at h
 | .nilptr :: _,_,h=>by simp [leC] at h
 | .any :: _,_,h=>by simp [leC] at h
theorem bM {x:AV}{as:List AV}{ps:List PV} (hx:x=.agg as) (h:leC as ps):x.le (.agg (AV.cs ps)):=by subst hx;exact AV.le_agg (aCd h)
theorem aKY {x:AV}{as bs:List AV} (hx:x=.agg as) (h:leP as bs):x.le (.agg bs):=by subst hx;exact AV.le_agg (tD h)
theorem uC {x:AV}{as bs:List AV} (hx:x=.tup as) (h:leP as bs):x.le (.tup bs):=by subst hx;exact AV.le_tup (tD h)
theorem aJH {x:AV}{f:FuncId}{as bs:List AV} (hx:x=.fn f as) (h:leP as bs):x.le (.fn f bs):=by
 subst hx
 intro g w v hv
 cases hv with
 | fn _ vs cs h1 h2 =>
  have:=cO.le (tD h) (show cO g w vs as from ⟨h1,h2⟩)
  exact .fn f vs bs this.1 this.2
theorem aEz {α:Type}{sz:Nat}{row:α→List PV}:AV.nil.le (.c (PV.ls sz row [])):=AV.le_nil_list sz
theorem tE {α:Type}{t sz:Nat}{row:α→List PV} (h:Nat.blt 0 sz=true):AV.nil.le (.os t sz row []):=AV.le_nil_own t sz (yL h)
theorem aC:leS [] []:=.nil
theorem eM {cs:List AV}{ps:List PV}{σ σ':St} (h:leC cs ps) (t:leS σ σ'):leS (cs :: σ) (AV.cs ps :: σ'):=.cons (aCd h) t
theorem rV {cs bs:List AV}{σ σ':St} (h:leP cs bs) (t:leS σ σ'):leS (cs :: σ) (bs :: σ'):=.cons (tD h) t
section
variable {P:Program}{all r:List Oper}{d:Nat}{ty:TypeId}{pos:String}{af:Array Edge}{fr:Fr}{σ:St}{K:Fr→St→Prop}{v:AV}
theorem fZ {e:TypeId}{z:List Value}{cs:List AV}{n:Nat}{σ':St} (hz:gK P e=some z) (hc:z.map AV.ofFlat=cs) (hn:σ.length=n) (hσ:σ++[cs]=σ') (h:eZ mo P all r ((d,.box n 0) :: fr) σ' K):eZ mo P all (⟨some d,.alloc e,ty,pos,af,none⟩ :: r) fr σ K:=by
 refine jF ?_
 refine lO rfl ?_
 subst hc hn hσ
 (refine .inl ?_;simp only [bN,hz])
 exact h
theorem gH {e:TypeId}{x:Operand}{cs:List AV}{n:Nat}{σ':St} (hx:fr.ev x=v) (hs:v.solid=true) (hc:v.cells=cs) (hn:σ.length=n) (hσ:σ++[cs]=σ') (h:eZ mo P all r ((d,.box n 0) :: fr) σ' K):eZ mo P all (⟨some d,.box e x,ty,pos,af,none⟩ :: r) fr σ K:=by
 refine jF ?_
 refine lO rfl ?_
 subst hx hc hn hσ
 (refine .inl ?_;simp only [bN])
 exact ⟨hs,h⟩
theorem bO {dst:Option Tmp}{t:TypeId}{x y:Operand}{ag:Bool}{n id off:Nat}{cs us:List AV}{σ':St} (hd:dst=none) (ht:fA P t=some (ag,n)) (hx:fr.ev x=.box id off) (hy:fr.ev y=v) (hs:v.solid=true) (hu:v.cells=us) (hn:us.length=n) (hc:σ[id]?=some cs) (hle:Nat.ble (off+n) cs.length=true)
  (hσ:σ.set id (cs.take off++(us++cs.drop (off+n)))=σ') (h:eZ mo P all r fr σ' K):eZ mo P all (⟨dst,.store t x y,ty,pos,af,none⟩ :: r) fr σ K:=by
 subst hd
 refine jF ?_
 refine lO rfl ?_
 subst hy hu
 (refine .inl ?_;simp only [bN,ht,hx,hc])
 refine ⟨hs,hn,yK hle,?_⟩
 rw [List.append_assoc,hσ]
 exact h
theorem rP {α:Type}{t e:TypeId}{len sz by_:Nat}{parts:Array (Nat × Operand)}{rows:List (List PV)}{row:α→List PV}{xs:List α}{σ':St} (hs:List Nat) (ht:fO P t=some (e,sz,by_)) (hl:parts.toList.length=len) (hm:Nat.ble (len*sz) 1000000=true) (hr:qS hs sz fr.ev 0 parts.toList=some rows) (hx:rows=xs.map row)
  (hf:fr.dem (iY (some d))=fr) (hσ:σ.dem (iY (some d))=σ') (h:eZ mo P all r ((d,.os (16*d) sz row xs) :: fr) σ' K):eZ mo P all (⟨some d,.buildSlice t len parts,ty,pos,af,none⟩ :: r) fr σ K:=by
 refine jF ?_
 refine lO rfl ?_
 subst hσ hx
 (refine .inl ?_;simp only [bN,ht])
 refine ⟨hl,yK hm,hs,?_⟩
 simp only [hr,Fr.demo,hf]
 exact h
theorem aGX {t e:TypeId}{len by_:Nat}{parts:Array (Nat × Operand)}{l:List (Nat × Nat)} (ht:fO P t=some (e,1,by_)) (hl:parts.toList.length=len) (hm:Nat.ble (len*1) 1000000=true) (h0:qS [] 1 fr.ev 0 parts.toList=none) (hr:zO fr.ev 0 parts.toList=some l)
  (h:eZ mo P all r ((d,.ptrs l) :: fr) σ K):eZ mo P all (⟨some d,.buildSlice t len parts,ty,pos,af,none⟩ :: r) fr σ K:=by
 refine jF ?_
 refine lO rfl ?_
 (refine .inl ?_;simp only [bN,ht])
 refine ⟨hl,yK hm,[],?_⟩
 simp only [h0,hr]
 exact ⟨trivial,h⟩
def aB3 (d t0:Nat):Nat→Bool:=fun t=>iY (some d) t||t==t0
theorem aKw {α:Type}{o:Oper}{t tx e:TypeId}{sz by_:Nat}{s x:AV}{row:α→List PV}{xs ys:List α}{f:Nat→Bool}{K:Option (Nat→Bool)→AV→St→Prop} (ht:fO P t=some (e,sz,by_)) (hb:Nat.blt 0 by_=true) (htx:eR P tx=3)
  (hs:(s=.nil∧xs=[]∧f=iY o.dst)∨∃ t0,s=.os t0 sz row xs∧f=fun t=>iY o.dst t||t==t0) (hx:isl x sz row ys∨(x=.nil∧ys=[])) (hy:∀ u,(row u).length=sz) (hm:(xs.length+ys.length)*by_≤140737488355328)
  (h:K (some f) (.os (iQ o.dst) sz row (xs++ys)) (σ.dem f)):lW P o t tx s x σ K:=by
 have hrow:∀ y∈ys.map row,y.length=sz:=by simp [hy]
 have hb':=yL hb
 have e1:AV.os (iQ o.dst) sz row (xs++ys)=.own (iQ o.dst) sz (xs.map row++ys.map row):=by simp [AV.os]
 rw [e1] at h
 rcases hs with ⟨rfl,rfl,rfl⟩ | ⟨t0,rfl,rfl⟩
 ·
  rcases hx with (rfl | ⟨t1,rfl⟩) | ⟨rfl,rfl⟩
  ·
   simp only [lW,ht,PV.ls];exact ⟨hb',trivial,htx,hrow,by simpa using hm,h⟩
  ·
   simp only [lW,ht,AV.os];exact ⟨hb',trivial,htx,hrow,by simpa using hm,h⟩
  ·
   simp only [lW,ht];exact ⟨hb',htx,by simp,h⟩
 ·
  rcases hx with (rfl | ⟨t1,rfl⟩) | ⟨rfl,rfl⟩
  ·
   simp only [lW,ht,PV.ls,AV.os];exact ⟨hb',trivial,trivial,htx,hrow,by simpa using hm,h⟩
  ·
   simp only [lW,ht,AV.os];exact ⟨hb',trivial,trivial,htx,hrow,by simpa using hm,h⟩
  ·
   simp only [lW,ht,AV.os];exact ⟨hb',trivial,htx,by simpa using hm,by simpa using h⟩
theorem aBd {α:Type}{s x:Operand}{t tx e:TypeId}{sz by_ t0:Nat}{row:α→List PV}{xs ys zs:List α} (ht:fO P t=some (e,sz,by_)) (hb:Nat.blt 0 by_=true) (htx:eR P tx=3) (hs:fr.ev s=.os t0 sz row xs) (hx:isl (fr.ev x) sz row ys) (hy:∀ u,(row u).length=sz) (hz:app by_ xs ys=some zs)
  (h:eZ mo P all r ((d,.os (16*d) sz row zs) :: fr.dem (aB3 d t0)) (σ.dem (aB3 d t0)) K):eZ mo P all (⟨some d,.call { callee:=.builtin .append,args:=#[s,x],argTypes:=#[t,tx] },ty,pos,af,none⟩ :: r) fr σ K:=by
 obtain ⟨hm,rfl⟩:=zM hz
 refine jF ?_
 refine lO rfl ?_
 (refine .inl ?_;simp only [bN])
 exact aKw ht hb htx (.inr ⟨t0,hs,rfl⟩) (.inl hx) hy hm h
theorem aMk {s x:Operand}{t tx e:TypeId}{by_ t0:Nat}{xs ys zs:List UInt8} (ht:fO P t=some (e,1,by_)) (hb:Nat.blt 0 by_=true) (htx:eR P tx=2) (hs:fr.ev s=.os t0 1 eD xs) (hx:fr.ev x=.c (.str ys)) (hz:app by_ xs ys=some zs)
  (h:eZ mo P all r ((d,.os (16*d) 1 eD zs) :: fr.dem (aB3 d t0)) (σ.dem (aB3 d t0)) K):eZ mo P all (⟨some d,.call { callee:=.builtin .append,args:=#[s,x],argTypes:=#[t,tx] },ty,pos,af,none⟩ :: r) fr σ K:=by
 obtain ⟨hm,rfl⟩:=zM hz
 refine jF ?_
 refine lO rfl ?_
 have e1:AV.os (iQ (some d)) 1 eD (xs++ys)=.own (iQ (some d)) 1 (xs.map eD++ys.map eD):=by simp [AV.os]
 have h':eZ mo P all r ((d,AV.os (iQ (some d)) 1 eD (xs++ys)) :: fr.dem (aB3 d t0)) (σ.dem (aB3 d t0)) K:=h
 rw [e1] at h'
 (refine .inl ?_;simp only [bN,lW,ht,hs,hx,AV.os])
 exact ⟨yL hb,trivial,trivial,htx,by simpa using hm,h'⟩
theorem dK {fo:Operand}{args:Array Operand}{ts:Array TypeId}{f:FuncId}{caps as:List AV}{σc σr σ':St}{rv:AV} (ids:List Nat) (hf:fr.ev fo=.fn f caps) (hc:bR P f as σc rv σr) (hnd:decide ids.Nodup=true) (hlt:(ids.all fun i=>Nat.blt i σ.length)=true)
  (ha:leP (AV.lowL ids (args.toList.map fr.ev++caps)) as) (hs:leS (σ.sub ids) σc) (hfr:(fr.dem fun t=>t / 16==d)=fr) (hv:rv.lift ids σ.length d=v) (hσ:σ.after ids d σr=σ') (h:eZ mo P all r ((d,v) :: fr) σ' K) :
  eZ mo P all (⟨some d,.call { callee:=.value fo,args:=args,argTypes:=ts },ty,pos,af,none⟩ :: r) fr σ K:=by
 refine jF ?_
 unfold aop
 simp only [hf,aA2]
 refine ⟨d,ids,[],as,σc,rv,σr,of_decide_eq_true hnd,.nil,fun i hi=>yL (List.all_eq_true.1 hlt i hi),tD ha,hs,hc,?_⟩
 simp only [Option.getD_some,zP,hfr,hv,hσ]
 exact h
theorem sU {fo:Operand}{args:Array Operand}{ts:Array TypeId}{f:FuncId}{caps as:List AV}{σc σr σ':St}{rv:AV}{fr1:Fr} (k:Nat) (ids lt:List Nat) (hf:fr.ev fo=.fn f caps) (hc:bR P f as σc rv σr) (hnd:decide ids.Nodup=true) (hltn:decide lt.Nodup=true) (hlt:(ids.all fun i=>Nat.blt i σ.length)=true)
  (ha:leP (AV.lowTL lt ids (args.toList.map fr.ev++caps)) as) (hs:leS (σ.sub ids lt) σc) (hfr:(fr.dem (qM lt k))=fr1) (hv:rv.lift ids σ.length k=v) (hσ:σ.after ids k σr lt=σ') (h:eZ mo P all r ((d,v) :: fr1) σ' K) :
  eZ mo P all (⟨some d,.call { callee:=.value fo,args:=args,argTypes:=ts },ty,pos,af,none⟩ :: r) fr σ K:=by
 refine jF ?_
 unfold aop
 simp only [hf,aA2]
 refine ⟨k,ids,lt,as,σc,rv,σr,of_decide_eq_true hnd,of_decide_eq_true hltn,fun i hi=>yL (List.all_eq_true.1 hlt i hi),tD ha,hs,hc,?_⟩
 simp only [Option.getD_some,hfr,hv,hσ]
 exact h
theorem aBP {dst:Option Tmp}{gd:Option (Nat × Bool)}{fo:Operand}{args:Array Operand}{ts:Array TypeId}{f:FuncId}{caps as:List AV}{rv:AV} (hf:fr.ev fo=.fn f caps) (hc:bR P f as [] rv []) (ha:leP (AV.lowL [] (args.toList.map fr.ev++caps)) as) (hv:rv.low []=v) :
  Qv P ⟨dst,.call { callee:=.value fo,args:=args,argTypes:=ts },ty,pos,af,gd⟩ fr σ v:=fun K hk=>by
 unfold aH8
 simp only [hf]
 exact ⟨as,rv,tD ha,hc,by rw [hv];exact hk⟩
end
section
variable {P:Program}{V:List Nat}{k0:Nat}{Q:Exit→Fr→St→Prop}{fr:Fr}{σ:St}{K:Fr→St→Prop}
theorem cI {all:List Oper}{fr':Fr} (hp:prune V fr=fr') (h:Q .normal fr' σ):eZ mo P all [] fr σ fun fr σ=>hold (Q .normal (prune V fr) σ):=by
 subst hp;exact h
theorem fM (h:K fr σ):vN K Q .normal fr σ:=h
theorem aK (h:Q .ret fr σ):vN K Q .ret fr σ:=h
theorem bY {id:Nat} (h:Q (.exit id) fr σ):vN K Q (.exit id) fr σ:=h
theorem cA {id:Nat} (h:Q .normal fr σ):aFj id Q .normal fr σ:=h
theorem bB {id:Nat} (h:Q .ret fr σ):aFj id Q .ret fr σ:=h
theorem eC {id:Nat} (h:Q .normal fr σ):aFj id Q (.exit id) fr σ:=by simp only [aFj,if_true];exact h
theorem aKL {id id':Nat} (hne:Nat.beq id' id=false) (h:Q (.exit id') fr σ):aFj id Q (.exit id') fr σ:=by
 have:¬id'=id:=Nat.ne_of_beq_eq_false hne
 simp only [aFj,this,if_false];exact h
theorem eL {c:Operand}{x y:Code} (h:fr.ev c=.c (.bool true)) (h1:nD P V k0 x Q fr σ):nD P V k0 (.cond c x y) Q fr σ:=aER true h (fun _=>h1) (fun e=>by cases e)
theorem wZ {c:Operand}{x y:Code} (h:fr.ev c=.c (.bool false)) (h1:nD P V k0 y Q fr σ):nD P V k0 (.cond c x y) Q fr σ:=aER false h (fun e=>by cases e) (fun _=>h1)
theorem jX {x y:Code}{J:Type} (C:J→Prop) (F:J→Fr) (G:J→St) (h:nD P V k0 x (vN (fun fr σ=>∃ j,C j∧hU k0 fr σ (F j) (G j)) Q) fr σ) (h2:∀ j,C j→nD P V k0 y Q (F j) (G j)):nD P V k0 (.seq x y) Q fr σ :=
 aNF (fun fr σ=>∃ j,C j∧fr=F j∧σ=G j) (tJ x (fun e fr σ he=>by
  cases e with
  | normal=>obtain ⟨j,h1,h2⟩:=he;exact ⟨F j,G j,h2,j,h1,rfl,rfl⟩
  | _=>exact he) h) (fun fr σ he=>by obtain ⟨j,hj,rfl,rfl⟩:=he;exact h2 j hj)
theorem fB {c:Code}{S R:Type} (body:S→Option (cD S R)) (F:S→Fr) (G:S→St) {s0:S}{r:R} (h0:dO body s0=some r) (hw:hU k0 fr σ (F s0) (G s0))
  (h:∀ s st,body s=some st→(∀ r',st=.out r'→r'=r)→nD P V k0 c (vN (fun fr σ=>∃ s',st=.next s'∧hU k0 fr σ (F s') (G s')) Q) (F s) (G s)):nD P V k0 (.loop c) Q fr σ:=by
 obtain ⟨n,hn⟩:=uD h0
 refine aMU (fun m fr σ=>∃ s,rN body m s=some r∧fr=F s∧σ=G s) n hw ⟨s0,hn,rfl,rfl⟩ ?_
 rintro m fr σ ⟨s,hs,rfl,rfl⟩
 cases m with
 | zero=>cases hs
 | succ m =>
  simp only [rN] at hs
  obtain ⟨st,h1,h2⟩:=aE hs
  refine tJ c (fun e fr σ he=>?_) (h s st h1 (fun r' e=>by subst e;cases h2;rfl))
  cases e with
  | normal=>obtain ⟨s',rfl,hw⟩:=he;exact ⟨m,F s',G s',by omega,hw,s',h2,rfl,rfl⟩
  | _=>exact he
theorem bJ (toks:List Nat) (m:Nat) {fr':Fr}{σ':St} (hnd:decide toks.Nodup=true) (hm:Nat.ble k0 m=true) (hf:fr'.inB m=true) (hb:St.inB m ((σ.retok toks).take m)=true) (h:Fr.below (fr.retok toks) fr') (hs:leS ((σ.retok toks).take m) σ'):hU k0 fr σ fr' σ' :=
 aEX toks (of_decide_eq_true hnd) m h (yK hm) hf hs hb
theorem bC {A:List AV→Prop} (h:A []):gQ P fr σ [] A:=h
theorem bL {t:Nat}{v:AV}{rs:List ResultVar}{A:List AV→Prop} (hv:fr.get t=v) (h:gQ P fr σ rs fun vs=>A (v :: vs)):gQ P fr σ (.tmp t :: rs) A:=by
 simp only [gQ,hv];exact h
theorem dX {a id off n:Nat}{t:TypeId}{cs us:List AV}{rs:List ResultVar}{A:List AV→Prop} (ht:fA P t=some (true,n)) (ha:fr.get a=.box id off) (hs:σ[id]?=some cs) (hn:Nat.ble (off+n) cs.length=true) (hc:(cs.drop off).take n=us) (h:gQ P fr σ rs fun vs=>A (.agg us :: vs)):gQ P fr σ (.cell a t :: rs) A:=by
 simp only [gQ,ht,ha,pZ,hs];subst hc;exact ⟨yK hn,h⟩
theorem bD {rs rs':List ResultVar}{r:AV}{σr:St} (hrs:rs=rs') (h:gQ P fr σ rs' fun vs=>Fin k0 (aFY vs) σ r σr):aL8 P rs k0 r σr .ret fr σ:=by subst hrs;exact h
theorem aLL {rs rs':List ResultVar}{r:AV}{σr:St} (hrs:rs=rs') (h:gQ P fr σ rs' fun vs=>Fin k0 (aFY vs) σ r σr):aL8 P rs k0 r σr .normal fr σ:=by subst hrs;exact h
theorem aR {rv r:AV}{σr:St} (toks:List Nat) (hnd:decide toks.Nodup=true) (hin:(rv.retok toks).inB k0=true) (hb:St.inB k0 (St.dem rF (σ.take k0))=true) (hr:(rv.retok toks).le r) (hσ:leS (St.dem rF (σ.take k0)) σr):Fin k0 rv σ r σr :=
 aJv toks (of_decide_eq_true hnd) hin (aHw rfl hb) hr hσ
theorem aHx {rv r:AV}{σr:St} (toks:List Nat) (hnd:decide toks.Nodup=true) (hin:rv.inB k0=true) (hb:St.inB k0 (σ.take k0)=true) (hr:(rv.retok toks).le r) (hσ:leS (St.retok toks (σ.take k0)) σr):Fin k0 rv σ r σr:=by
 intro c g w v hk hi hv
 have hf:mC g w #[v] [(0,rv)]:=fun d=>by
  simp only [Fr.get]
  split
  ·
   rename_i e;subst e;exact hv
  ·
   exact .any
 have w1:hU k0 [(0,rv)] σ [(0,rv)] (σ.take k0):=hU.take (Nat.le_refl _) (fun d=>by
  simp only [Fr.get]
  split
  ·
   exact hin
  ·
   rfl) (fun i cs hi hcs=>St.inB_get hb i cs (by rw [List.getElem?_take_of_lt hi];exact hcs))
 obtain ⟨g1,hi1,hf1⟩:=w1 c g w #[v] hk hi hf
 obtain ⟨g2,hi2,hf2⟩:=hU.retok (k0:=k0) (fr:=[(0,rv)]) (σ:=σ.take k0) toks (of_decide_eq_true hnd) c g1 w #[v] hk hi1 hf1
 obtain ⟨g3,hi3,hf3⟩:=hU.cells (k0:=k0) (fr:=Fr.retok toks [(0,rv)]) hσ c g2 w #[v] hk hi2 hf2
 exact ⟨g3,hi3,hr _ _ _ (hf3 0)⟩
theorem aKQ {j off:Nat}{cs0:List AV}{rv:AV}{σr:St} (hv:rv=.box j off) (hj:Nat.ble k0 j=true) (hcs:σ[j]?=some cs0) (hcin:AV.inB.inBL k0 (AV.demL rF cs0)=true) (hb:St.inB k0 (St.dem rF (σ.take k0))=true) (hσ:leS (St.dem rF (σ.take k0)++[AV.demL rF cs0]) σr):Fin k0 rv σ (.box k0 off) σr:=by
 subst hv
 exact aKO (yK hj) hcs hcin (aHw rfl hb) hσ
end
theorem eA {τ κ:Type}{t y:τ}{x:Fl τ κ}{f:κ→Option τ} (h:some (Fl.done t)=some x) (h2:x.next f=some y):some t=some y:=by cases h;exact h2
theorem kN {τ κ:Type}{j:κ}{y:τ}{x:Fl τ κ}{f:κ→Option τ} (h:x=Fl.go j) (h2:x.next f=some y):f j=some y:=by subst h;exact h2
theorem dN {σ ρ:Type}{r r':ρ}{st:cD σ ρ} (h:some (cD.out r')=some st) (h2:∀ r',st=.out r'→r'=r):some r'=some r:=by
 rw [h2 r' (Option.some.inj h).symm]
end Go.Proofs.YtnigjppddilpcaaGreatDoor.Abs

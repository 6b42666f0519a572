/- Tokens renamed: what a loop needs whose slices grow. From a law's data to plain values. A law's row: its arguments, and what is left behind. The printed walks' steps: each operation's rule, its outcome told in typed lists. The printed walks' steps: operations that grow memory, calls, ways that meet, loops, hand-backs. -/
import Derived.Test.YtnigjppddilpcaaGreatDoorAbs19
import Derived.ChangeShapes
import Derived.ChangeSlices
import Derived.ChangeArms
import Derived.ChangeOld
import Derived.DataReads
import Derived.WideShapes
import Derived.Below
import Derived.Test.YtnigjppddilpcaaGreatDoorPk1
namespace Go.Proofs.YtnigjppddilpcaaGreatDoor.Abs
open Go
set_option linter.unusedVariables false
set_option linter.unusedSimpArgs false
variable {mo:Bool}
def Fr.retok (toks:List Nat):Fr→Fr
 | []=>[]
 | (i,a) :: r=>(i,a.retok toks) :: Fr.retok toks r
def St.retok (toks:List Nat):St→St
 | []=>[]
 | cs :: r=>AV.retokL toks cs :: St.retok toks r
theorem St.retok_eq (toks:List Nat) (σ:St):σ.retok toks=σ.map (AV.retokL toks):=by
 induction σ with
 | nil=>rfl
 | cons a l ih=>simp [St.retok,ih]
theorem Fr.get_retok (toks:List Nat) (fr:Fr) (d:Nat):(fr.retok toks).get d=(fr.get d).retok toks:=by
 induction fr with
 | nil=>rfl
 | cons x r ih =>
  obtain ⟨i,a⟩:=x
  simp only [Fr.retok,Fr.get]
  split
  ·
   rfl
  ·
   exact ih
theorem kK.retok {k0:Nat}{fr:Fr}{σ:St} (toks:List Nat) (hnd:toks.Nodup):kK k0 fr σ (fr.retok toks) (σ.retok toks):=by
 intro c g w tmps hk hi hf
 refine ⟨⟨g.I,g.β,fun j=>(toks[j]?).bind g.τ⟩,⟨hi.os,hi.tape,hi.output,hi.size,hi.old,hi.Ile,hi.Iold,hi.Ilt,hi.βpre,hi.βnew,hi.βnd,?_,hi.βI,hi.βlt,fun t b ht=>?_,fun t t' b h1 h2=>?_,fun id cs b hs' hb=>?_,hi.cell0,hi.glo⟩,fun d=>?_⟩
 ·
  rw [St.retok_eq,List.length_map];exact hi.βlen
 ·
  change (toks[t]?).bind g.τ=some b at ht
  cases htt:toks[t]? with
  | none=>simp [htt] at ht
  | some s =>
   simp only [htt,Option.bind_some] at ht
   exact hi.τnew s b ht
 ·
  change (toks[t]?).bind g.τ=some b at h1
  change (toks[t']?).bind g.τ=some b at h2
  cases e1:toks[t]? with
  | none=>simp [e1] at h1
  | some s =>
   cases e2:toks[t']? with
   | none=>simp [e2] at h2
   | some s' =>
    simp only [e1,e2,Option.bind_some] at h1 h2
    have:=hi.τinj s s' b h1 h2
    subst this
    exact mG hnd e1 e2
 ·
  rw [St.retok_eq,List.getElem?_map,Option.map_eq_some_iff] at hs'
  obtain ⟨cs0,hcs0,rfl⟩:=hs'
  obtain ⟨cur,e,hh,hc⟩:=hi.store id cs0 b hcs0 hb
  refine ⟨cur,e,hh,by simpa [AV.retokL_eq] using hc.1,fun i v a hv ha=>?_⟩
  simp only [AV.retokL_eq,List.getElem?_map,Option.map_eq_some_iff] at ha
  obtain ⟨a,ha,rfl⟩:=ha
  exact (hc.2 i v a hv ha).retok toks
 ·
  rw [Fr.get_retok];exact (hf d).retok toks
theorem aIa {k0:Nat} (toks:List Nat) (hnd:toks.Nodup) (m:Nat) {fr fr':Fr}{σ σ':St} (h:Fr.below (fr.retok toks) fr') (hm:k0≤m) (hf:fr'.inB m=true) (hs:leS ((σ.retok toks).take m) σ') (hb:St.inB m ((σ.retok toks).take m)=true):kK k0 fr σ fr' σ' :=
 (kK.retok toks hnd).trans (aN0 m h hm hf hs hb)
section
variable {P:Program}{ops r:List Oper}{d:Option Tmp}{op:Op}{ty:TypeId}{pos:String}{af:Array Edge}{j:Nat}{fr:Fr}{σ:St}{K:Fr→St→Prop}{Kq:Fr→Prop}
theorem mR (h:aop P ⟨d,op,ty,pos,af,none⟩ fr σ fun fr σ=>gP mo P ops r fr σ K):gP mo P ops (⟨d,op,ty,pos,af,none⟩ :: r) fr σ K:=aHy h
end
end Go.Proofs.YtnigjppddilpcaaGreatDoor.Abs
namespace Go.Proofs.YtnigjppddilpcaaGreatDoor.Abs
open Go
set_option linter.unusedVariables false
set_option linter.unusedSimpArgs false
def aEL (S:TypeId→List PV→Prop):List TypeId→List PV→Prop
 | [],ps=>ps=[]
 | t :: ts,ps=>∃ p q,ps=p++q∧S t p∧aEL S ts q
def iB (P:Program):Nat→TypeId→List PV→Prop
 | 0,_,_=>False
 | n+1,t,ps=>match P.underlying t with
  | some .bool=>∃ b,ps=[.bool b]
  | some (.int k)=>∃ x,ps=[.int k x]∧(Lit.int k x).wf=true
  | some .string=>∃ s:List UInt8,ps=[.str s]∧s.length≤140737488351232
  | some (.slice e)=>∃ xs,ps=[.list (P.cellsOf e) xs]∧(∀ x∈xs,iB P n e x)∧xs.length≤9223372036854775807∧xs.length*P.bytesOf e≤140737488351232
  | some (.struct fs)=>aEL (iB P n) (fs.toList.map (·.type)) ps
  | _=>False
def aF9 (P:Program):Nat→List Field→Option Nat
 | o,[]=>some o
 | o,f :: r=>if f.offset=o then aF9 P (o+P.cellsOf f.type) r else none
def aEY (P:Program) (L:List TypeId):Bool:=L.all fun t=>match P.underlying t with
 | some .bool=>true
 | some (.int _)=>true
 | some .string=>true
 | some (.slice e)=>L.contains e&&decide (0<P.cellsOf e)
 | some (.struct fs)=>fs.toList.all (fun f=>L.contains f.type)&&aF9 P 0 fs.toList==some (P.cellsOf t)
 | _=>false
def old (W:World):Nat→Nat→Prop:=fun b _=>b<W.heap.size
def RVs (W:World) (cs:List Value) (ps:List PV):Prop:=ps.length=cs.length∧∀ (i:Nat) v p,cs[i]?=some v→ps[i]?=some p→RV (old W) W v p
theorem RVs.one {W:World}{v:Value}{p:PV} (h:RV (old W) W v p):RVs W [v] [p]:=⟨rfl,fun i v' p' h1 h2=>by cases i with
 | zero=>simp at h1 h2;subst h1;subst h2;exact h
 | succ i=>simp at h1⟩
theorem RVs.app {W:World}{cs cs':List Value}{ps ps':List PV} (h:RVs W cs ps) (h':RVs W cs' ps'):RVs W (cs++cs') (ps++ps'):=by
 refine ⟨by simp [h.1,h'.1],fun i v p h1 h2=>?_⟩
 by_cases hi:i<cs.length
 ·
  rw [List.getElem?_append_left hi] at h1
  rw [List.getElem?_append_left (by rw [h.1];exact hi)] at h2
  exact h.2 i v p h1 h2
 ·
  rw [List.getElem?_append_right (by omega)] at h1
  rw [List.getElem?_append_right (by rw [h.1];omega),h.1] at h2
  exact h'.2 _ v p h1 h2
theorem aD9 {α:Type}{R:Nat→α→Prop}:∀ (n:Nat),(∀ i,i<n→∃ x,R i x)→∃ xs:List α,xs.length=n∧∀ (i:Nat) x,xs[i]?=some x→R i x
 | 0,_=>⟨[],rfl,fun i x h=>by simp at h⟩
 | n+1,h=>by
  obtain ⟨xs,hl,hx⟩:=aD9 n (fun i hi=>h i (by omega))
  obtain ⟨y,hy⟩:=h n (by omega)
  refine ⟨xs++[y],by simp [hl],fun i x hi=>?_⟩
  by_cases hin:i<n
  ·
   rw [List.getElem?_append_left (by omega)] at hi
   exact hx i x hi
  ·
   rw [List.getElem?_append_right (by omega)] at hi
   have:i=n:=by
    have:=(List.getElem?_eq_some_iff.1 hi).1
    simp at this;omega
   subst this
   simp [hl] at hi
   subst hi
   exact hy
theorem aBn (b o n:Nat):(⟨b,o,none⟩:Addr).add n=⟨b,o+n,none⟩:=by
 unfold Addr.add
 split
 ·
  rename_i h;subst h;rfl
 ·
  rfl
theorem aLO {W:World}{a:Addr}{u:Value} (h:W.cell? a=some u):a.spot=none∧a.block<W.heap.size:=by
 unfold World.cell? at h
 split at h
 ·
  rename_i c e y hb
  split at h
  ·
   cases h
  ·
   rename_i hs
   exact ⟨by simpa using hs,(Array.getElem?_eq_some_iff.1 hb).1⟩
 ·
  cases h
theorem aEo {H:Type}{P:Program}{e:TypeId}{y:Nat}:∀ {l:List (DataW H)}{d:DataW H},d∈l→y∈d.weights P e→y∈DataW.weightsAll P e l
 | [],d,h,_=>by simp at h
 | d' :: r,d,h,hy=>by
  simp only [DataW.weightsAll,List.mem_append]
  rcases List.mem_cons.1 h with rfl | h
  ·
   exact .inl hy
  ·
   exact .inr (aEo h hy)
theorem aAn {H:Type}{P:Program}{y:Nat}:∀ {ts:List TypeId}{ds:List (DataW H)}{i:Nat}{t:TypeId}{d:DataW H},ts[i]?=some t→ds[i]?=some d→y∈d.weights P t→y∈DataW.weightsEach P ts ds
 | [],ds,i,t,d,h,_,_=>by simp at h
 | t' :: ts,[],i,t,d,_,h,_=>by simp at h
 | t' :: ts,d' :: ds,0,t,d,h1,h2,hy=>by
  simp only [List.getElem?_cons_zero,Option.some.injEq] at h1 h2
  subst h1 h2
  simp only [DataW.weightsEach,List.mem_append]
  exact .inl hy
 | t' :: ts,d' :: ds,i+1,t,d,h1,h2,hy=>by
  simp only [List.getElem?_cons_succ] at h1 h2
  simp only [DataW.weightsEach,List.mem_append]
  exact .inr (aAn h1 h2 hy)
theorem aGm {H:Type}{P:Program}{ts:List TypeId}{ds:List (DataW H)} (h:(DataW.weightsEach P ts ds).all (·≤reachBytes)=true) (i:Nat) {t:TypeId}{d:DataW H} (h1:ts[i]?=some t) (h2:ds[i]?=some d) :
  ∀ y∈d.weights P t,y≤140737488351232:=fun y hy=>by
 have:=List.all_eq_true.1 h y (aAn h1 h2 hy)
 simp only [decide_eq_true_eq] at this
 exact this
end Go.Proofs.YtnigjppddilpcaaGreatDoor.Abs
namespace Go.Proofs.YtnigjppddilpcaaGreatDoor.Abs
open Go RowKit
set_option linter.unusedVariables false
set_option linter.unusedSimpArgs false
def aPv (W:World):G:=⟨old W,[],fun _=>none⟩
theorem aLZ {P:Program}{f:FuncId}{args:List AV}{W:World}{vs:Array Value} (hc:cC P f args [] (.c (.bool true)) []) (hv:dF (aPv W) W vs args) (hg:Glo (old W) W) :
  Calls P f vs W fun e w'=>e=.returned (.bool true)∧Below W.heap.size W w':=by
 have h:=hc.2 W (old W) [] (fun _=>none) vs (fun b o hb=>hb) (by simp) (by simp) (by simp) (by simp) (by simp) rfl (by simp) hv hg
 refine h.mono fun e w' he=>?_
 obtain ⟨v,g',rfl,hi,hr⟩:=he
 obtain ⟨⟩ | _:=hr
 rename_i h
 cases h
 exact ⟨rfl,hi.os,hi.tape,hi.output,hi.size,fun k hk=>hi.old k hk (by simp) (fun h=>by obtain ⟨t,h⟩:=h;cases h)⟩
theorem aKt {g:G}{w:World}:dF g w #[] []:=⟨rfl,fun i v a h=>by simp at h⟩
theorem aEd {g:G}{w:World}{v:Value}{a:AV}{vs:List Value}{as:List AV} (h:gW g w v a) (t:dF g w vs.toArray as):dF g w (v :: vs).toArray (a :: as):=by
 refine ⟨by simpa using t.1,fun i u b hu hb=>?_⟩
 cases i with
 | zero=>simp at hu hb;subst hu;subst hb;exact h
 | succ i=>exact t.2 i u b (by simpa using hu) (by simpa using hb)
end Go.Proofs.YtnigjppddilpcaaGreatDoor.Abs
namespace Go.Proofs.YtnigjppddilpcaaGreatDoor.Abs
open Go
set_option linter.unusedVariables false
set_option linter.unusedSimpArgs false
variable {mo:Bool}
def PV.ls {α:Type} (sz:Nat) (row:α→List PV) (xs:List α):PV:=.list sz (xs.map row)
def AV.os {α:Type} (t sz:Nat) (row:α→List PV) (xs:List α):AV:=.own t sz (xs.map row)
abbrev aI {k:IntKind}{n:Int}:AV:=.c (.int k n)
abbrev aB {b:Bool}:AV:=.c (.bool b)
abbrev aS {s:List UInt8}:AV:=.c (.str s)
abbrev aL {α:Type}{sz:Nat}{row:α→List PV}{xs:List α}:AV:=.c (PV.ls sz row xs)
abbrev aO {α:Type}{t sz:Nat}{row:α→List PV}{xs:List α}:AV:=AV.os t sz row xs
def AV.cs (l:List PV):List AV:=l.map .c
def gv (c:Bool) (v:AV):AV:=if c then v else .tup []
theorem gx {c:Bool}{x v:AV} (h:x=gv c v) (hc:c=true):x=v:=by rw [h,gv,if_pos hc]
def isl {α:Type} (a:AV) (sz:Nat) (row:α→List PV) (xs:List α):Prop:=a=.c (PV.ls sz row xs)∨∃ t,a=.os t sz row xs
theorem eO {α:Type}{a:AV}{sz:Nat}{row:α→List PV}{xs:List α} (h:a=.c (PV.ls sz row xs)):isl a sz row xs:=.inl h
theorem tW {α:Type}{a:AV}{t sz:Nat}{row:α→List PV}{xs:List α} (h:a=.os t sz row xs):isl a sz row xs:=.inr ⟨t,h⟩
def Pv (P:Program) (o:Oper) (ev:Operand→AV) (σ:St) (v:AV):Prop:=∀ K:Option (Nat→Bool)→AV→St→Prop,K .none v σ→aAM P o ev σ K
def vE (o:Oper):Bool:=match o.op with | .call { callee:=.value _,.. }=>false | _=>(wA o).isNone
theorem pH {P:Program}{o:Oper}{fr:Fr}{σ:St}{K:Fr→St→Prop} (hp:vE o=true) (h:aAM P o fr.ev σ fun dm v σ'=>K ((fr.demo dm).put o.dst v) σ'):aop P o fr σ K:=by
 unfold vE at hp
 unfold aop
 split at hp
 ·
  cases hp
 ·
  rename_i hno
  split
  ·
   rename_i f args argTypes hop
   exact absurd hop (hno _ _ _)
  ·
   split
   ·
    rename_i hn;rw [hn] at hp;cases hp
   ·
    exact h
theorem aJZ {P:Program}{o:Oper}{fr:Fr}{σ:St}{K:AV→Prop} (hp:vE o=true) (h:aAM P o fr.ev σ (QQ σ K)):aLD P o fr σ K:=by
 unfold vE at hp
 unfold aLD
 split at hp
 ·
  cases hp
 ·
  rename_i hno
  split
  ·
   rename_i f args argTypes hop
   exact absurd hop (hno _ _ _)
  ·
   exact h
def aCC (ops:List Oper) (j:Nat):Option Nat:=(ops[j]?).bind (·.dst)
theorem aPm {ops:List Oper}{o:Oper}{j dj:Nat}{w b:Bool}{get:Nat→AV}{yes no:Prop} (hg:o.guard=some (j,w)) (hj:aCC ops j=some dj) (hs:get dj=.c (.bool b)) (hy:b=w→yes) (hn:b≠w→no):kP ops o get yes no:=by
 unfold aCC at hj
 obtain ⟨p,hp,hd⟩:=Option.bind_eq_some_iff.1 hj
 unfold kP
 rw [hg]
 simp only [hp,hd,hs]
 exact ⟨hy,hn⟩
theorem aQU {ops:List Oper}{o:Oper}{j dj:Nat}{w:Bool}{get:Nat→AV}{yes no:Prop} (hg:o.guard=some (j,w)) (hj:aCC ops j=some dj) (hs:get dj=.tup []) (hn:no):kP ops o get yes no:=by
 unfold aCC at hj
 obtain ⟨p,hp,hd⟩:=Option.bind_eq_some_iff.1 hj
 unfold kP
 rw [hg]
 simp only [hp,hd,hs]
 exact hn
section
variable {P:Program}{all r:List Oper}{d dj j:Nat}{op:Op}{ty:TypeId}{pos:String}{af:Array Edge}{fr:Fr}{σ:St}{K:Fr→St→Prop}{Kq:Fr→Prop}{v:AV}{b c w:Bool}
theorem aT (hp:vE ⟨some d,op,ty,pos,af,none⟩=true) (hv:Pv P ⟨some d,op,ty,pos,af,none⟩ fr.ev σ v) (h:gP mo P all r ((d,v) :: fr) σ K):gP mo P all (⟨some d,op,ty,pos,af,none⟩ :: r) fr σ K:=aHy <|
 pH hp (hv _ h)
def Qv (P:Program) (o:Oper) (fr:Fr) (σ:St) (v:AV):Prop:=∀ K:AV→Prop,K v→aLD P o fr σ K
theorem aDy {o:Oper} (hp:vE o=true) (hv:Pv P o fr.ev σ v):Qv P o fr σ v:=fun K h=>aJZ hp (hv _ ⟨rfl,rfl,h⟩)
def Ov (P:Program) (o:Oper) (fr:Fr) (σ:St) (v:AV):Prop:=∀ K:Fr→St→Prop,K (fr.put o.dst v) σ→aop P o fr σ K
theorem fJ {o:Oper} (hp:vE o=true) (hv:Pv P o fr.ev σ v):Ov P o fr σ v:=fun K h=>pH hp (hv _ h)
theorem yS (hj:aCC all j=some dj) (hs:fr.get dj=.c (.bool b)) (hv:(b==w)=true→Ov P ⟨some d,op,ty,pos,af,some (j,w)⟩ fr σ v) (h:gP mo P all r ((d,gv (b==w) v) :: fr) σ K):gP mo P all (⟨some d,op,ty,pos,af,some (j,w)⟩ :: r) fr σ K:=by
 refine aPm rfl hj hs (fun e=>?_) (fun e=>?_)
 ·
  have e':(b==w)=true:=by simp [e]
  refine aHy (hv e' _ ?_)
  rw [e',gv,if_pos rfl] at h
  exact h
 ·
  have e':(b==w)=false:=by simpa using e
  rw [e',gv,if_neg (by simp)] at h
  exact h
theorem eX (hj:aCC all j=some dj) (hs:fr.get dj=gv c (.c (.bool b))) (hv:(c&&(b==w))=true→Ov P ⟨some d,op,ty,pos,af,some (j,w)⟩ fr σ v) (h:gP mo P all r ((d,gv (c&&(b==w)) v) :: fr) σ K):gP mo P all (⟨some d,op,ty,pos,af,some (j,w)⟩ :: r) fr σ K:=by
 cases c with
 | true =>
  rw [Bool.true_and] at h hv
  exact yS hj (by rw [hs,gv,if_pos rfl]) hv h
 | false =>
  rw [gv,if_neg (by simp)] at hs
  rw [Bool.false_and,gv,if_neg (by simp)] at h
  exact aQU rfl hj hs h
theorem aGW {dst:Option Tmp}{g g':Option (Nat × Bool)}:aop P ⟨dst,op,ty,pos,af,g⟩ fr σ K=aop P ⟨dst,op,ty,pos,af,g'⟩ fr σ K:=by
 cases op
 case call c=>obtain ⟨callee,args,argTypes⟩:=c;cases callee <;> first | rfl | (rename_i b;cases b <;> rfl)
 case slice t x lo hi mx=>cases mx <;> rfl
 case makeFunc fn f cs=>cases fn <;> rfl
 all_goals rfl
theorem aJV {dst:Option Tmp}{g g':Option (Nat × Bool)}:aIl P ⟨dst,op,ty,pos,af,g⟩ fr σ K=aIl P ⟨dst,op,ty,pos,af,g'⟩ fr σ K:=by
 have h1:∀ fr σ,aLz P ⟨dst,op,ty,pos,af,g⟩ fr σ K=aLz P ⟨dst,op,ty,pos,af,g'⟩ fr σ K:=fun fr σ=>by cases op <;> rfl
 have h2:∀ fr σ,aop P ⟨dst,op,ty,pos,af,g⟩ fr σ K=aop P ⟨dst,op,ty,pos,af,g'⟩ fr σ K:=fun fr σ=>aGW
 have h3:∀ fr σ,aHv P ⟨dst,op,ty,pos,af,g⟩ fr σ K=aHv P ⟨dst,op,ty,pos,af,g'⟩ fr σ K:=fun fr σ=>by cases op <;> rfl
 simp only [aIl,h1,h2,h3]
theorem aJU {dst:Option Tmp}{g g':Option (Nat × Bool)}:aN7 mo P ⟨dst,op,ty,pos,af,g⟩ fr σ K=aN7 mo P ⟨dst,op,ty,pos,af,g'⟩ fr σ K:=by
 cases mo
 ·
  exact aGW
 ·
  exact aJV
theorem rO {dst:Option Tmp} (hj:aCC all j=some dj) (hs:fr.get dj=.c (.bool b)) (hb:b=w) (h:gP mo P all (⟨dst,op,ty,pos,af,none⟩ :: r) fr σ K):gP mo P all (⟨dst,op,ty,pos,af,some (j,w)⟩ :: r) fr σ K :=
 aPm rfl hj hs (fun _=>by rw [aJU (g':=none)];exact h) (fun e=>absurd hb e)
theorem aL9 {dst:Option Tmp} (hj:aCC all j=some dj) (hs:fr.get dj=.c (.bool b)) (hb:b=!w) (h:gP mo P all r (fr.put dst (.tup [])) σ K):gP mo P all (⟨dst,op,ty,pos,af,some (j,w)⟩ :: r) fr σ K :=
 aPm rfl hj hs (fun e=>by subst e;cases b <;> simp at hb) (fun _=>h)
end
section
variable {P:Program}{d:Option Tmp}{ty:TypeId}{pos:String}{af:Array Edge}{gd:Option (Nat × Bool)}{ev:Operand→AV}{σ:St}{x y z:Operand}{t t2:TypeId}{k k':IntKind}{a b:Int}{v:AV}
theorem bA (hx:ev x=v):Pv P ⟨d,.move x,ty,pos,af,gd⟩ ev σ v:=fun K h=>by (refine .inl ?_;simp only [bY]);rw [hx];exact h
theorem aCK (hx:ev x=v):Pv P ⟨d,.assign x,ty,pos,af,gd⟩ ev σ v:=fun K h=>by (refine .inl ?_;simp only [bY]);rw [hx];exact h
theorem aNt {q p1 p2:Bool} (hx:ev x=.c (.bool q)) (hy:ev y=.c (.bool p1)) (hz:ev z=.c (.bool p2)):Pv P ⟨d,.pick x y z,ty,pos,af,gd⟩ ev σ (.c (.bool (cond q p1 p2))):=fun K h=>by
 (refine .inl ?_;simp only [bY,hx,hy,hz])
 cases q <;> exact h
theorem cE {q p1 p2 c:Bool} (hx:ev x=.c (.bool q)) (hy:ev y=gv c (.c (.bool p1))) (hz:ev z=.c (.bool p2)) (hc:q=true→c=true):Pv P ⟨d,.pick x y z,ty,pos,af,gd⟩ ev σ (.c (.bool (cond q p1 p2))):=by
 cases c with
 | true=>exact aNt hx (by rw [hy,gv,if_pos rfl]) hz
 | false =>
  cases q with
  | true=>cases hc rfl
  | false =>
   intro K h
   (refine .inl ?_;simp only [bY,hx,hy,hz,gv,if_neg (show ¬(false=true) by simp)])
   exact ⟨fun e=>(by cases e),fun _=>h⟩
theorem cB {q p1 p2 c:Bool} (hx:ev x=.c (.bool q)) (hy:ev y=.c (.bool p1)) (hz:ev z=gv c (.c (.bool p2))) (hc:q=false→c=true):Pv P ⟨d,.pick x y z,ty,pos,af,gd⟩ ev σ (.c (.bool (cond q p1 p2))):=by
 cases c with
 | true=>exact aNt hx hy (by rw [hz,gv,if_pos rfl])
 | false =>
  cases q with
  | false=>cases hc rfl
  | true =>
   intro K h
   (refine .inl ?_;simp only [bY,hx,hy,hz,gv,if_neg (show ¬(false=true) by simp)])
   exact ⟨fun _=>h,fun e=>(by cases e)⟩
theorem aJ {id off n:Nat}{cs:List AV} (ht:gK P t=some (false,n)) (hx:ev x=.box id off) (hs:σ[id]?=some cs) (hc:cs[off]?=some v):Pv P ⟨d,.load t x,ty,pos,af,gd⟩ ev σ v:=fun K h=>by
 (refine .inl ?_;simp only [bY,ht,hx,tU,hs,hc]);exact h
theorem dJ {id off n:Nat}{cs us:List AV} (ht:gK P t=some (true,n)) (hx:ev x=.box id off) (hs:σ[id]?=some cs) (hn:Nat.ble (off+n) cs.length=true) (hc:(cs.drop off).take n=us):Pv P ⟨d,.load t x,ty,pos,af,gd⟩ ev σ (.agg us):=fun K h=>by
 (refine .inl ?_;simp only [bY,ht,hx,tU,hs]);subst hc;exact ⟨by rw [Nat.ble_eq] at hn;exact hn,h⟩
theorem jW {off n:Nat}{cs:List PV}{p:PV} (ht:gK P t=some (false,n)) (hx:ev x=.eptr cs off) (hc:cs[off]?=some p):Pv P ⟨d,.load t x,ty,pos,af,gd⟩ ev σ (.c p):=fun K h=>by
 (refine .inl ?_;simp only [bY,ht,hx,tU,hc]);exact h
theorem lW {off n:Nat}{cs us:List PV} (ht:gK P t=some (true,n)) (hx:ev x=.eptr cs off) (hn:Nat.ble (off+n) cs.length=true) (hc:(cs.drop off).take n=us):Pv P ⟨d,.load t x,ty,pos,af,gd⟩ ev σ (.agg (AV.cs us)):=fun K h=>by
 (refine .inl ?_;simp only [bY,ht,hx,tU]);subst hc;exact ⟨by rw [Nat.ble_eq] at hn;exact hn,h⟩
theorem gE {n:Nat}{p:Nat × Nat} (ht:gK P t=some (false,n)) (hx:ev x=.pptr p):Pv P ⟨d,.load t x,ty,pos,af,gd⟩ ev σ (.box p.1 p.2):=fun K h=>by
 (refine .inl ?_;simp only [bY,ht,hx,tU]);exact ⟨trivial,h⟩
theorem gB {i m:Nat} (hx:ev x=.box i m):Pv P ⟨d,.nilCheck x,ty,pos,af,gd⟩ ev σ (.box i m):=fun K h=>by (refine .inl ?_;simp only [bY,hx]);exact h
theorem fL (hx:ev x=.c (.int k a)) (hy:ev y=.c (.int k b)):Pv P ⟨d,.binOp .add t x y t2,ty,pos,af,gd⟩ ev σ (.c (.int k (k.wrap (a+b)))):=fun K h=>by (refine .inl ?_;simp only [bY,rI,hx,hy]);exact ⟨trivial,h⟩
theorem aNv (hx:ev x=.c (.int k a)) (hy:ev y=.c (.int k b)):Pv P ⟨d,.binOp .sub t x y t2,ty,pos,af,gd⟩ ev σ (.c (.int k (k.wrap (a - b)))):=fun K h=>by (refine .inl ?_;simp only [bY,rI,hx,hy]);exact ⟨trivial,h⟩
theorem aQp (hx:ev x=.c (.int k a)) (hy:ev y=.c (.int k b)):Pv P ⟨d,.binOp .mul t x y t2,ty,pos,af,gd⟩ ev σ (.c (.int k (k.wrap (a*b)))):=fun K h=>by (refine .inl ?_;simp only [bY,rI,hx,hy]);exact ⟨trivial,h⟩
theorem dG (hx:ev x=.c (.int k a)) (hy:ev y=.c (.int k b)):Pv P ⟨d,.binOp .eql t x y t2,ty,pos,af,gd⟩ ev σ (.c (.bool (decide (a=b)))):=fun K h=>by (refine .inl ?_;simp only [bY,rI,hx,hy]);exact ⟨trivial,h⟩
theorem gQ (hx:ev x=.c (.int k a)) (hy:ev y=.c (.int k b)):Pv P ⟨d,.binOp .neq t x y t2,ty,pos,af,gd⟩ ev σ (.c (.bool (!decide (a=b)))):=fun K h=>by (refine .inl ?_;simp only [bY,rI,hx,hy]);exact ⟨trivial,h⟩
theorem fM (hx:ev x=.c (.int k a)) (hy:ev y=.c (.int k b)):Pv P ⟨d,.binOp .lss t x y t2,ty,pos,af,gd⟩ ev σ (.c (.bool (decide (a<b)))):=fun K h=>by (refine .inl ?_;simp only [bY,rI,hx,hy]);exact ⟨trivial,h⟩
theorem wI (hx:ev x=.c (.int k a)) (hy:ev y=.c (.int k b)):Pv P ⟨d,.binOp .leq t x y t2,ty,pos,af,gd⟩ ev σ (.c (.bool (decide (a≤b)))):=fun K h=>by (refine .inl ?_;simp only [bY,rI,hx,hy]);exact ⟨trivial,h⟩
theorem sJ (hx:ev x=.c (.int k a)) (hy:ev y=.c (.int k b)):Pv P ⟨d,.binOp .gtr t x y t2,ty,pos,af,gd⟩ ev σ (.c (.bool (decide (b<a)))):=fun K h=>by (refine .inl ?_;simp only [bY,rI,hx,hy]);exact ⟨trivial,h⟩
theorem rP (hx:ev x=.c (.int k a)) (hy:ev y=.c (.int k b)):Pv P ⟨d,.binOp .geq t x y t2,ty,pos,af,gd⟩ ev σ (.c (.bool (decide (b≤a)))):=fun K h=>by (refine .inl ?_;simp only [bY,rI,hx,hy]);exact ⟨trivial,h⟩
theorem aO9 (hx:ev x=.c (.int k a)) (hy:ev y=.c (.int k b)):Pv P ⟨d,.binOp .and t x y t2,ty,pos,af,gd⟩ ev σ (.c (.int k (gM .and k a b))):=fun K h=>by (refine .inl ?_;simp only [bY,rI,hx,hy]);exact ⟨trivial,h⟩
theorem aQr (hx:ev x=.c (.int k a)) (hy:ev y=.c (.int k b)):Pv P ⟨d,.binOp .or t x y t2,ty,pos,af,gd⟩ ev σ (.c (.int k (gM .or k a b))):=fun K h=>by (refine .inl ?_;simp only [bY,rI,hx,hy]);exact ⟨trivial,h⟩
theorem aPc (hx:ev x=.c (.int k a)) (hy:ev y=.c (.int k b)):Pv P ⟨d,.binOp .xor t x y t2,ty,pos,af,gd⟩ ev σ (.c (.int k (gM .xor k a b))):=fun K h=>by (refine .inl ?_;simp only [bY,rI,hx,hy]);exact ⟨trivial,h⟩
theorem aPa (hx:ev x=.c (.int k a)) (hy:ev y=.c (.int k' b)) (h0:0≤b):Pv P ⟨d,.binOp .shl t x y t2,ty,pos,af,gd⟩ ev σ (.c (.int k (k.wrap (a*2 ^ (min b.toNat k.bits))))):=fun K h=>by (refine .inl ?_;simp only [bY,rI,hx,hy]);exact ⟨h0,h⟩
theorem aNu (hx:ev x=.c (.int k a)) (hy:ev y=.c (.int k' b)) (h0:0≤b):Pv P ⟨d,.binOp .shr t x y t2,ty,pos,af,gd⟩ ev σ (.c (.int k (a.fdiv (2 ^ (min b.toNat k.bits))))):=fun K h=>by (refine .inl ?_;simp only [bY,rI,hx,hy]);exact ⟨h0,h⟩
theorem sX {s u:List UInt8} (hx:ev x=.c (.str s)) (hy:ev y=.c (.str u)):Pv P ⟨d,.binOp .eql t x y t2,ty,pos,af,gd⟩ ev σ (.c (.bool (decide (s=u)))):=fun K h=>by (refine .inl ?_;simp only [bY,rI,hx,hy]);exact h
theorem rQ {s u:List UInt8} (hx:ev x=.c (.str s)) (hy:ev y=.c (.str u)):Pv P ⟨d,.binOp .neq t x y t2,ty,pos,af,gd⟩ ev σ (.c (.bool (!decide (s=u)))):=fun K h=>by (refine .inl ?_;simp only [bY,rI,hx,hy]);exact h
theorem aPL {s u:List UInt8} (hx:ev x=.c (.str s)) (hy:ev y=.c (.str u)):Pv P ⟨d,.binOp .gtr t x y t2,ty,pos,af,gd⟩ ev σ (.c (.bool (!(Op.bytesLess s u||decide (s=u))))):=fun K h=>by (refine .inl ?_;simp only [bY,rI,hx,hy]);exact h
theorem aPK {s u:List UInt8} (hx:ev x=.c (.str s)) (hy:ev y=.c (.str u)):Pv P ⟨d,.binOp .geq t x y t2,ty,pos,af,gd⟩ ev σ (.c (.bool (!Op.bytesLess s u))):=fun K h=>by (refine .inl ?_;simp only [bY,rI,hx,hy]);exact h
theorem aKq {i m:Nat} (ht:fP P t=5) (hx:ev x=.box i m) (hy:ev y=.nilptr):Pv P ⟨d,.binOp .eql t x y t2,ty,pos,af,gd⟩ ev σ (.c (.bool false)):=fun K h=>by (refine .inl ?_;simp only [bY,rI,hx,hy]);exact ⟨ht,h⟩
theorem fH {p:Bool} (hx:ev x=.c (.bool p)):Pv P ⟨d,.unOp .not t x,ty,pos,af,gd⟩ ev σ (.c (.bool (!p))):=fun K h=>by (refine .inl ?_;simp only [bY,hx]);exact h
theorem aQq (hx:ev x=.c (.int k a)):Pv P ⟨d,.unOp .neg t x,ty,pos,af,gd⟩ ev σ (.c (.int k (k.wrap (0 - a)))):=fun K h=>by (refine .inl ?_;simp only [bY,hx]);exact h
theorem aB7 {kd ks:IntKind} (hs:xQ P t=some ks) (hd:xQ P t2=some kd) (hx:ev x=.c (.int k a)):Pv P ⟨d,.convert t t2 x,ty,pos,af,gd⟩ ev σ (.c (.int kd (kd.wrap a))):=fun K h=>by (refine .inl ?_;simp only [bY,hx,hd,hs]);exact h
theorem aI2 {sz:Nat}{xs:List UInt8} (hs:bY.tyBytes P t) (hd:fP P t2=2) (hx:isl (ev x) sz gA xs):Pv P ⟨d,.convert t t2 x,ty,pos,af,gd⟩ ev σ (.c (.str xs)):=fun K h=>by
 rcases hx with hx | ⟨_,hx⟩ <;> (refine .inl ?_;simp only [bY,hx,PV.ls,AV.os]) <;> exact ⟨hs,hd,xs,rfl,h⟩
theorem aPJ {f:FuncId}{first captured:Array Operand}{cs:List AV} (hf:first=#[]) (hc:captured.toList.map ev=cs):Pv P ⟨d,.makeFunc (.func f) first captured,ty,pos,af,gd⟩ ev σ (.fn f cs):=fun K h=>by
 (refine .inl ?_;simp only [bY]);subst hc;exact ⟨hf,h⟩
theorem b_l {n:Nat}{a:AV}{l:Int}{kk:Nat→Nat→Prop} (ha:a=.c (.int k l)) (h0:0≤l∧l≤n) (h:kk l.toNat n):lS (some a) .none n kk:=by subst ha;exact ⟨h0.1,h0.2,h⟩
theorem b_h {n:Nat}{a:AV}{l:Int}{kk:Nat→Nat→Prop} (ha:a=.c (.int k l)) (h0:0≤l∧l≤n) (h:kk 0 l.toNat):lS .none (some a) n kk:=by subst ha;exact ⟨h0.1,h0.2,h⟩
theorem b_b {n:Nat}{a a':AV}{l l':Int}{kk:Nat→Nat→Prop} (ha:a=.c (.int k l)) (ha':a'=.c (.int k' l')) (h0:0≤l∧l≤l'∧l'≤n) (h:kk l.toNat l'.toNat):lS (some a) (some a') n kk:=by subst ha;subst ha';exact ⟨h0.1,h0.2.1,h0.2.2,h⟩
theorem aPM {α:Type}{e:TypeId}{sz by_:Nat}{row:α→List PV}{xs:List α}{l h:Nat}{lo hi:Option Operand} (h7:fP P t≠7) (ht:gS P t=some (e,sz,by_)) (hx:isl (ev x) sz row xs)
  (hb:∀ kk:Nat→Nat→Prop,kk l h→lS (lo.map ev) (hi.map ev) xs.length kk):Pv P ⟨d,.slice t x lo hi .none,ty,pos,af,gd⟩ ev σ (.c (PV.ls sz row ((xs.take h).drop l))):=fun K hk=>by
 have e1:PV.ls sz row ((xs.take h).drop l)=.list sz (((xs.map row).take h).drop l):=by simp [PV.ls,List.map_take,List.map_drop]
 rw [e1] at hk
 rcases hx with hx | ⟨t0,hx⟩ <;> (refine .inl ?_;simp only [bY,hx,PV.ls,AV.os,xU,ht]) <;> exact ⟨h7,trivial,by rw [List.length_map];exact hb _ hk⟩
theorem aPb {s:List UInt8}{l h:Nat}{lo hi:Option Operand} (h7:fP P t=2) (hx:ev x=.c (.str s))
  (hb:∀ kk:Nat→Nat→Prop,kk l h→lS (lo.map ev) (hi.map ev) s.length kk):Pv P ⟨d,.slice t x lo hi .none,ty,pos,af,gd⟩ ev σ (.c (.str ((s.take h).drop l))):=fun K hk=>by
 (refine .inl ?_;simp only [bY,hx,xU])
 exact ⟨by rw [h7];decide,h7,hb _ hk⟩
theorem aPP {α:Type}{e:TypeId}{sz by_:Nat}{row:α→List PV}{xs:List α}{l:Int} (h7:fP P t≠7) (ht:gS P t=some (e,sz,by_)) (hx:isl (ev x) sz row xs) (hy:ev y=.c (.int k l)) (h0:0≤l∧l≤xs.length):Pv P ⟨d,.slice t x (some y) .none .none,ty,pos,af,gd⟩ ev σ (.c (PV.ls sz row (xs.drop l.toNat))):=by
 have:=aPM (d:=d) (ty:=ty) (pos:=pos) (af:=af) (gd:=gd) (σ:=σ) (l:=l.toNat) (h:=xs.length) (lo:=some y) (hi:=.none) h7 ht hx (fun kk=>b_l hy h0)
 simpa using this
theorem aPO {α:Type}{e:TypeId}{sz by_:Nat}{row:α→List PV}{xs:List α}{l:Int} (h7:fP P t≠7) (ht:gS P t=some (e,sz,by_)) (hx:isl (ev x) sz row xs) (hy:ev y=.c (.int k l)) (h0:0≤l∧l≤xs.length):Pv P ⟨d,.slice t x .none (some y) .none,ty,pos,af,gd⟩ ev σ (.c (PV.ls sz row (xs.take l.toNat))):=by
 have:=aPM (d:=d) (ty:=ty) (pos:=pos) (af:=af) (gd:=gd) (σ:=σ) (l:=0) (h:=l.toNat) (lo:=.none) (hi:=some y) h7 ht hx (fun kk=>b_h hy h0)
 simpa using this
theorem aPN {α:Type}{e:TypeId}{sz by_:Nat}{row:α→List PV}{xs:List α}{l h:Int} (h7:fP P t≠7) (ht:gS P t=some (e,sz,by_)) (hx:isl (ev x) sz row xs) (hy:ev y=.c (.int k l)) (hz:ev z=.c (.int k' h)) (h0:0≤l∧l≤h∧h≤xs.length):Pv P ⟨d,.slice t x (some y) (some z) .none,ty,pos,af,gd⟩ ev σ (.c (PV.ls sz row ((xs.take h.toNat).drop l.toNat))) :=
 aPM (l:=l.toNat) (h:=h.toNat) (lo:=some y) (hi:=some z) h7 ht hx (fun kk=>b_b hy hz h0)
theorem aK8 {s:List UInt8}{l:Int} (h7:fP P t=2) (hx:ev x=.c (.str s)) (hy:ev y=.c (.int k l)) (h0:0≤l∧l≤s.length):Pv P ⟨d,.slice t x (some y) .none .none,ty,pos,af,gd⟩ ev σ (.c (.str (s.drop l.toNat))):=by
 have:=aPb (P:=P) (d:=d) (ty:=ty) (pos:=pos) (af:=af) (gd:=gd) (σ:=σ) (l:=l.toNat) (h:=s.length) (lo:=some y) (hi:=.none) h7 hx (fun kk=>b_l hy h0)
 simpa using this
theorem aOu {s:List UInt8}{l:Int} (h7:fP P t=2) (hx:ev x=.c (.str s)) (hy:ev y=.c (.int k l)) (h0:0≤l∧l≤s.length):Pv P ⟨d,.slice t x .none (some y) .none,ty,pos,af,gd⟩ ev σ (.c (.str (s.take l.toNat))):=by
 have:=aPb (P:=P) (d:=d) (ty:=ty) (pos:=pos) (af:=af) (gd:=gd) (σ:=σ) (l:=0) (h:=l.toNat) (lo:=.none) (hi:=some y) h7 hx (fun kk=>b_h hy h0)
 simpa using this
theorem gN {α:Type}{sz:Nat}{row:α→List PV}{xs:List α} (ht:fP P t=3) (hx:isl (ev x) sz row xs):Pv P ⟨d,.call { callee:=.builtin .len,args:=#[x],argTypes:=#[t] },ty,pos,af,gd⟩ ev σ (.c (.int .i64 xs.length)):=fun K h=>by
 rcases hx with hx | ⟨_,hx⟩ <;> (refine .inl ?_;simp only [bY,hx,aDd,PV.ls,AV.os,List.length_map]) <;> exact ⟨ht,h⟩
theorem nI {s:List UInt8} (ht:fP P t=2) (hx:ev x=.c (.str s)):Pv P ⟨d,.call { callee:=.builtin .len,args:=#[x],argTypes:=#[t] },ty,pos,af,gd⟩ ev σ (.c (.int .i64 s.length)):=fun K h=>by (refine .inl ?_;simp only [bY,hx,aDd]);exact ⟨ht,h⟩
theorem aKp {l:List (Nat × Nat)} (ht:fP P t=3) (hx:ev x=.ptrs l):Pv P ⟨d,.call { callee:=.builtin .len,args:=#[x],argTypes:=#[t] },ty,pos,af,gd⟩ ev σ (.c (.int .i64 l.length)):=fun K h=>by (refine .inl ?_;simp only [bY,hx,aDd]);exact ⟨ht,h⟩
theorem aQo {ts:Array TypeId} (hx:ev x=.c (.int k a)) (hy:ev y=.c (.int k' b)):Pv P ⟨d,.call { callee:=.builtin .max,args:=#[x,y],argTypes:=ts },ty,pos,af,gd⟩ ev σ (.c (.int k (if b > a then b else a))):=fun K h=>by (refine .inl ?_;simp only [bY,hx,hy]);exact h
theorem bD {f k0 n id off:Nat}{ag:Bool} (ht:dK P t f=some (k0,ag,n)) (hx:ev x=.box id off):Pv P ⟨d,.fieldAddr t x f,ty,pos,af,gd⟩ ev σ (.box id (off+k0)):=fun K h=>by (refine .inl ?_;simp only [bY,ht,hx]);exact h
theorem aK7 {f k0 n off:Nat}{ag:Bool}{cs:List PV} (ht:dK P t f=some (k0,ag,n)) (hx:ev x=.eptr cs off):Pv P ⟨d,.fieldAddr t x f,ty,pos,af,gd⟩ ev σ (.eptr cs (off+k0)):=fun K h=>by (refine .inl ?_;simp only [bY,ht,hx]);exact h
theorem oV {α:Type}{e:TypeId}{sz by_:Nat}{row:α→List PV}{xs:List α}{i:Int}{u:α}{cs:List PV} (ht:gS P t=some (e,sz,by_)) (hx:isl (ev x) sz row xs) (hy:ev y=.c (.int k i)) (hg:jV xs i=some u) (he:row u=cs):Pv P ⟨d,.indexAddr t x y,ty,pos,af,gd⟩ ev σ (.eptr cs 0):=fun K h=>by
 obtain ⟨h0,h1,h2⟩:=aFn hg
 subst he
 have key:∀ r,(xs.map row)[i.toNat]?=some r→K .none (.eptr r 0) σ:=fun r hr=>by
  rw [List.getElem?_map,h2] at hr
  simp at hr
  subst hr
  exact h
 rcases hx with hx | ⟨_,hx⟩ <;> (refine .inl ?_;simp only [bY,ht,hx,hy,PV.ls,AV.os]) <;> exact ⟨trivial,h0,by rw [List.length_map];exact h1,key⟩
theorem lB {e:TypeId}{by_:Nat}{l:List (Nat × Nat)}{i:Int}{p:Nat × Nat} (ht:gS P t=some (e,1,by_)) (hx:ev x=.ptrs l) (hy:ev y=.c (.int k i)) (hg:jV l i=some p):Pv P ⟨d,.indexAddr t x y,ty,pos,af,gd⟩ ev σ (.pptr p):=fun K h=>by
 obtain ⟨h0,h1,h2⟩:=aFn hg
 (refine .inl ?_;simp only [bY,ht,hx,hy])
 exact ⟨trivial,h0,h1,fun q hq=>by rw [h2] at hq;cases hq;exact h⟩
theorem aFF {s:List UInt8}{i:Int}{u:UInt8} (ht:fP P t=2) (hx:ev x=.c (.str s)) (hy:ev y=.c (.int k i)) (hg:jV s i=some u):Pv P ⟨d,.index t x y,ty,pos,af,gd⟩ ev σ (.c (.int .u8 u.toNat)):=fun K h=>by
 obtain ⟨h0,h1,h2⟩:=aFn hg
 (refine .inl ?_;simp only [bY,hx,hy])
 exact ⟨ht,h0,h1,fun q hq=>by rw [h2] at hq;cases hq;exact h⟩
theorem wH {vs:List AV}{i:Nat} (hx:ev x=.tup vs) (hv:vs[i]?=some v):Pv P ⟨d,.extract x i,ty,pos,af,gd⟩ ev σ v:=fun K h=>by (refine .inl ?_;simp only [bY,hx,hv]);exact h
def yV (places:Nat→Option (Nat × Nat)) (ev:Operand→AV):List AV→List (Nat × Operand)→Option (List AV)
 | cs,[]=>some cs
 | cs,(i,x) :: r=>match places i with
  | some (off,n)=>if (ev x).solid&&(ev x).cells.length==n&&Nat.ble (off+n) cs.length then yV places ev (cs.take off++((ev x).cells++cs.drop (off+n))) r else .none
  | _=>.none
theorem aGV {places:Nat→Option (Nat × Nat)} (hp:∀ i,mA P t i=places i):∀ (parts:List (Nat × Operand)) (cs us:List AV),yV places ev cs parts=some us→aBJ P t ev cs parts=some us
 | [],cs,us,h=>h
 | (i,x) :: r,cs,us,h=>by
  simp only [yV] at h
  simp only [aBJ,hp i]
  split at h
  ·
   rename_i off n hpl
   rw [hpl]
   simp only
   split at h
   ·
    rename_i hc
    simp only [Bool.and_eq_true,beq_iff_eq,Nat.ble_eq] at hc
    rw [if_pos ⟨hc.1.1,hc.1.2,hc.2⟩,List.append_assoc]
    exact aGV hp r _ _ h
   ·
    cases h
  ·
   cases h
theorem jA {parts:Array (Nat × Operand)}{z:List Value}{places:Nat→Option (Nat × Nat)}{cs:List AV} (h6:fP P t=6∧aEC P t=true∧jQ P t=some z∧∀ i,mA P t i=places i) (hc:yV places ev (z.map AV.ofFlat) parts.toList=some cs):Pv P ⟨d,.build t parts,ty,pos,af,gd⟩ ev σ (.agg cs):=fun K h=>by
 (refine .inl ?_;simp only [bY,h6.2.2.1,aGV h6.2.2.2 _ _ _ hc])
 exact ⟨h6.1,h6.2.1,h⟩
theorem hZ {places:Nat→Option (Nat × Nat)}{cs:List AV}:yV places ev cs []=some cs:=rfl
theorem eA {places:Nat→Option (Nat × Nat)}{cs cs' us out:List AV}{i off n:Nat}{v:AV}{r:List (Nat × Operand)} (hp:places i=some (off,n)) (hv:ev x=v) (hs:v.solid=true) (hu:v.cells=us) (hl:(us.length==n&&Nat.ble (off+n) cs.length)=true) (hc:cs.take off++(us++cs.drop (off+n))=cs')
  (t:yV places ev cs' r=some out):yV places ev cs ((i,x) :: r)=some out:=by
 simp only [yV,hp,hv,hs,hu,Bool.true_and]
 rw [if_pos hl,hc]
 exact t
theorem iA {parts:Array (Nat × Operand)}{z:List Value}{places:Nat→Option (Nat × Nat)}{c0 cs:List AV} (h6:fP P t=6∧aEC P t=true∧jQ P t=some z∧∀ i,mA P t i=places i) (h0:z.map AV.ofFlat=c0) (hc:yV places ev c0 parts.toList=some cs):Pv P ⟨d,.build t parts,ty,pos,af,gd⟩ ev σ (.agg cs):=by
 subst h0;exact jA h6 hc
end
end Go.Proofs.YtnigjppddilpcaaGreatDoor.Abs
namespace Go.Proofs.YtnigjppddilpcaaGreatDoor.Abs
open Go
set_option linter.unusedVariables false
set_option linter.unusedSimpArgs false
variable {mo:Bool}
theorem aDf {a b:Nat} (h:Nat.blt a b=true):a<b:=by rw [Nat.blt_eq] at h;exact h
theorem aDe {a b:Nat} (h:Nat.ble a b=true):a≤b:=by rw [Nat.ble_eq] at h;exact h
def leP:List AV→List AV→Prop
 | [],[]=>True
 | a :: as,b :: bs=>a.le b∧leP as bs
 | _,_=>False
theorem zB:∀ {as bs:List AV},leP as bs→AV.leL as bs
 | [],[],_=>.nil
 | a :: as,b :: bs,h=>.cons h.1 (zB h.2)
 | [],_ :: _,h=>h.elim
 | _ :: _,[],h=>h.elim
def leC:List AV→List PV→Prop
 | [],[]=>True
 | .c p :: as,q :: qs=>p=q∧leC as qs
 | .own _ sz xs :: as,q :: qs=>PV.list sz xs=q∧leC as qs
 | .nil :: as,q :: qs=>(∃ sz,q=.list sz [])∧leC as qs
 | _,_=>False
theorem aFq:∀ {as:List AV}{ps:List PV},leC as ps→AV.leL as (AV.cs ps)
 | [],[],_=>.nil
 | .c p :: as,q :: qs,h=>.cons (by simp only [leC] at h;rw [h.1];exact AV.le_refl _) (aFq (by simp only [leC] at h;exact h.2))
 | .own t sz xs :: as,q :: qs,h=>.cons (by simp only [leC] at h;rw [← h.1];exact AV.le_own_list _ _ _) (aFq (by simp only [leC] at h;exact h.2))
 | .nil :: as,q :: qs,h=>.cons (by simp only [leC] at h;obtain ⟨⟨sz,rfl⟩,_⟩:=h;exact AV.le_nil_list sz) (aFq (by simp only [leC] at h;exact h.2))
 | [],_ :: _,h=>by simp [leC] at h
 | .c _ :: _,[],h=>by simp [leC] at h
 | .own .. :: _,[],h=>by simp [leC] at h
 | .nil :: _,[],h=>by simp [leC] at h
 | .agg _ :: _,_,h=>by simp [leC] at h
 | .tup _ :: _,_,h=>by simp [leC] at h
 | .box .. :: _,_,h=>by simp [leC] at h
 | .eptr .. :: _,_,h=>by simp [leC] at h
 | .ptrs _ :: _,_,h=>by simp [leC] at h
 | .view .. :: _,_,h=>by simp [leC] at h
 | .mrow .. :: _,_,h=>by simp [leC] at h
 | .mptr .. :: _,_,h=>by simp [leC] at h
 | .pptr _ :: _,_,h=>by simp [leC] at h
 | .fn .. :: _,_,h=>by simp [leC] at h
 | .nilptr :: _,_,h=>by simp [leC] at h
 | .any :: _,_,h=>by simp [leC] at h
theorem bO {x:AV}{as:List AV}{ps:List PV} (hx:x=.agg as) (h:leC as ps):x.le (.agg (AV.cs ps)):=by subst hx;exact AV.le_agg (aFq h)
theorem aOn {x:AV}{as bs:List AV} (hx:x=.agg as) (h:leP as bs):x.le (.agg bs):=by subst hx;exact AV.le_agg (zB h)
theorem rN {x:AV}{as bs:List AV} (hx:x=.tup as) (h:leP as bs):x.le (.tup bs):=by subst hx;exact AV.le_tup (zB h)
theorem aNk {x:AV}{f:FuncId}{as bs:List AV} (hx:x=.fn f as) (h:leP as bs):x.le (.fn f bs):=by
 subst hx
 intro g w v hv
 cases hv with
 | fn _ vs cs h1 h2 =>
  have:=dF.le (zB h) (show dF g w vs as from ⟨h1,h2⟩)
  exact .fn f vs bs this.1 this.2
theorem aPC {α:Type}{sz:Nat}{row:α→List PV}:AV.nil.le (.c (PV.ls sz row [])):=AV.le_nil_list sz
theorem aB4 {α:Type}{t sz:Nat}{row:α→List PV} (h:Nat.blt 0 sz=true):AV.nil.le (.os t sz row []):=AV.le_nil_own t sz (aDf h)
theorem aF:leS [] []:=.nil
theorem eW {cs:List AV}{ps:List PV}{σ σ':St} (h:leC cs ps) (t:leS σ σ'):leS (cs :: σ) (AV.cs ps :: σ'):=.cons (aFq h) t
theorem wR {cs bs:List AV}{σ σ':St} (h:leP cs bs) (t:leS σ σ'):leS (cs :: σ) (bs :: σ'):=.cons (zB h) t
section
variable {P:Program}{all r:List Oper}{d:Nat}{ty:TypeId}{pos:String}{af:Array Edge}{fr:Fr}{σ:St}{K:Fr→St→Prop}{v:AV}
theorem iG {e:TypeId}{z:List Value}{cs:List AV}{n:Nat}{σ':St} (hz:jQ P e=some z) (hc:z.map AV.ofFlat=cs) (hn:σ.length=n) (hσ:σ++[cs]=σ') (h:gP mo P all r ((d,.box n 0) :: fr) σ' K):gP mo P all (⟨some d,.alloc e,ty,pos,af,none⟩ :: r) fr σ K:=by
 refine mR ?_
 refine pH rfl ?_
 subst hc hn hσ
 (refine .inl ?_;simp only [bY,hz])
 exact h
theorem iH {e:TypeId}{x:Operand}{cs:List AV}{n:Nat}{σ':St} (hx:fr.ev x=v) (hs:v.solid=true) (hc:v.cells=cs) (hn:σ.length=n) (hσ:σ++[cs]=σ') (h:gP mo P all r ((d,.box n 0) :: fr) σ' K):gP mo P all (⟨some d,.box e x,ty,pos,af,none⟩ :: r) fr σ K:=by
 refine mR ?_
 refine pH rfl ?_
 subst hx hc hn hσ
 (refine .inl ?_;simp only [bY])
 exact ⟨hs,h⟩
theorem bU {dst:Option Tmp}{t:TypeId}{x y:Operand}{ag:Bool}{n id off:Nat}{cs us:List AV}{σ':St} (hd:dst=none) (ht:gK P t=some (ag,n)) (hx:fr.ev x=.box id off) (hy:fr.ev y=v) (hs:v.solid=true) (hu:v.cells=us) (hn:us.length=n) (hc:σ[id]?=some cs) (hle:Nat.ble (off+n) cs.length=true)
  (hσ:σ.set id (cs.take off++(us++cs.drop (off+n)))=σ') (h:gP mo P all r fr σ' K):gP mo P all (⟨dst,.store t x y,ty,pos,af,none⟩ :: r) fr σ K:=by
 subst hd
 refine mR ?_
 refine pH rfl ?_
 subst hy hu
 (refine .inl ?_;simp only [bY,ht,hx,hc])
 refine ⟨hs,hn,aDe hle,?_⟩
 rw [List.append_assoc,hσ]
 exact h
theorem xX {α:Type}{t e:TypeId}{len sz by_:Nat}{parts:Array (Nat × Operand)}{rows:List (List PV)}{row:α→List PV}{xs:List α}{σ':St} (hs:List Nat) (ht:gS P t=some (e,sz,by_)) (hl:parts.toList.length=len) (hm:Nat.ble (len*sz) 1000000=true) (hr:vW hs sz fr.ev 0 parts.toList=some rows) (hx:rows=xs.map row)
  (hf:fr.dem (lK (some d))=fr) (hσ:σ.dem (lK (some d))=σ') (h:gP mo P all r ((d,.os (16*d) sz row xs) :: fr) σ' K):gP mo P all (⟨some d,.buildSlice t len parts,ty,pos,af,none⟩ :: r) fr σ K:=by
 refine mR ?_
 refine pH rfl ?_
 subst hσ hx
 (refine .inl ?_;simp only [bY,ht])
 refine ⟨hl,aDe hm,hs,?_⟩
 simp only [hr,Fr.demo,hf]
 exact h
theorem aNr {t e:TypeId}{len by_:Nat}{parts:Array (Nat × Operand)}{l:List (Nat × Nat)} (ht:gS P t=some (e,1,by_)) (hl:parts.toList.length=len) (hm:Nat.ble (len*1) 1000000=true) (h0:vW [] 1 fr.ev 0 parts.toList=none) (hr:aCu fr.ev 0 parts.toList=some l)
  (h:gP mo P all r ((d,.ptrs l) :: fr) σ K):gP mo P all (⟨some d,.buildSlice t len parts,ty,pos,af,none⟩ :: r) fr σ K:=by
 refine mR ?_
 refine pH rfl ?_
 (refine .inl ?_;simp only [bY,ht])
 refine ⟨hl,aDe hm,[],?_⟩
 simp only [h0,hr]
 exact ⟨trivial,h⟩
def aLQ (d t0:Nat):Nat→Bool:=fun t=>lK (some d) t||t==t0
theorem aN5 {α:Type}{o:Oper}{t tx e:TypeId}{sz by_:Nat}{s x:AV}{row:α→List PV}{xs ys:List α}{f:Nat→Bool}{K:Option (Nat→Bool)→AV→St→Prop} (ht:gS P t=some (e,sz,by_)) (hb:Nat.blt 0 by_=true) (htx:fP P tx=3)
  (hs:(s=.nil∧xs=[]∧f=lK o.dst)∨∃ t0,s=.os t0 sz row xs∧f=fun t=>lK o.dst t||t==t0) (hx:isl x sz row ys∨(x=.nil∧ys=[])) (hy:∀ u,(row u).length=sz) (hm:(xs.length+ys.length)*by_≤140737488355328)
  (h:K (some f) (.os (lP o.dst) sz row (xs++ys)) (σ.dem f)):oD P o t tx s x σ K:=by
 have hrow:∀ y∈ys.map row,y.length=sz:=by simp [hy]
 have hb':=aDf hb
 have e1:AV.os (lP o.dst) sz row (xs++ys)=.own (lP o.dst) sz (xs.map row++ys.map row):=by simp [AV.os]
 rw [e1] at h
 rcases hs with ⟨rfl,rfl,rfl⟩ | ⟨t0,rfl,rfl⟩
 ·
  rcases hx with (rfl | ⟨t1,rfl⟩) | ⟨rfl,rfl⟩
  ·
   simp only [oD,ht,PV.ls];exact ⟨hb',trivial,htx,hrow,by simpa using hm,h⟩
  ·
   simp only [oD,ht,AV.os];exact ⟨hb',trivial,htx,hrow,by simpa using hm,h⟩
  ·
   simp only [oD,ht];exact ⟨hb',htx,by simp,h⟩
 ·
  rcases hx with (rfl | ⟨t1,rfl⟩) | ⟨rfl,rfl⟩
  ·
   simp only [oD,ht,PV.ls,AV.os];exact ⟨hb',trivial,trivial,htx,hrow,by simpa using hm,h⟩
  ·
   simp only [oD,ht,AV.os];exact ⟨hb',trivial,trivial,htx,hrow,by simpa using hm,h⟩
  ·
   simp only [oD,ht,AV.os];exact ⟨hb',trivial,htx,by simpa using hm,by simpa using h⟩
theorem aFB {α:Type}{s x:Operand}{t tx e:TypeId}{sz by_ t0:Nat}{row:α→List PV}{xs ys zs:List α} (ht:gS P t=some (e,sz,by_)) (hb:Nat.blt 0 by_=true) (htx:fP P tx=3) (hs:fr.ev s=.os t0 sz row xs) (hx:isl (fr.ev x) sz row ys) (hy:∀ u,(row u).length=sz) (hz:app by_ xs ys=some zs)
  (h:gP mo P all r ((d,.os (16*d) sz row zs) :: fr.dem (aLQ d t0)) (σ.dem (aLQ d t0)) K):gP mo P all (⟨some d,.call { callee:=.builtin .append,args:=#[s,x],argTypes:=#[t,tx] },ty,pos,af,none⟩ :: r) fr σ K:=by
 obtain ⟨hm,rfl⟩:=vU hz
 refine mR ?_
 refine pH rfl ?_
 (refine .inl ?_;simp only [bY])
 exact aN5 ht hb htx (.inr ⟨t0,hs,rfl⟩) (.inl hx) hy hm h
theorem aPF {s x:Operand}{t tx e:TypeId}{by_ t0:Nat}{xs ys zs:List UInt8} (ht:gS P t=some (e,1,by_)) (hb:Nat.blt 0 by_=true) (htx:fP P tx=2) (hs:fr.ev s=.os t0 1 gA xs) (hx:fr.ev x=.c (.str ys)) (hz:app by_ xs ys=some zs)
  (h:gP mo P all r ((d,.os (16*d) 1 gA zs) :: fr.dem (aLQ d t0)) (σ.dem (aLQ d t0)) K):gP mo P all (⟨some d,.call { callee:=.builtin .append,args:=#[s,x],argTypes:=#[t,tx] },ty,pos,af,none⟩ :: r) fr σ K:=by
 obtain ⟨hm,rfl⟩:=vU hz
 refine mR ?_
 refine pH rfl ?_
 have e1:AV.os (lP (some d)) 1 gA (xs++ys)=.own (lP (some d)) 1 (xs.map gA++ys.map gA):=by simp [AV.os]
 have h':gP mo P all r ((d,AV.os (lP (some d)) 1 gA (xs++ys)) :: fr.dem (aLQ d t0)) (σ.dem (aLQ d t0)) K:=h
 rw [e1] at h'
 (refine .inl ?_;simp only [bY,oD,ht,hs,hx,AV.os])
 exact ⟨aDf hb,trivial,trivial,htx,by simpa using hm,h'⟩
theorem dM {fo:Operand}{args:Array Operand}{ts:Array TypeId}{f:FuncId}{caps as:List AV}{σc σr σ':St}{rv:AV} (ids:List Nat) (hf:fr.ev fo=.fn f caps) (hc:cC P f as σc rv σr) (hnd:decide ids.Nodup=true) (hlt:(ids.all fun i=>Nat.blt i σ.length)=true)
  (ha:leP (AV.lowL ids (args.toList.map fr.ev++caps)) as) (hs:leS (σ.sub ids) σc) (hfr:(fr.dem fun t=>t / 16==d)=fr) (hv:rv.lift ids σ.length d=v) (hσ:σ.after ids d σr=σ') (h:gP mo P all r ((d,v) :: fr) σ' K) :
  gP mo P all (⟨some d,.call { callee:=.value fo,args:=args,argTypes:=ts },ty,pos,af,none⟩ :: r) fr σ K:=by
 refine mR ?_
 unfold aop
 simp only [hf,aDX]
 refine ⟨d,ids,[],as,σc,rv,σr,of_decide_eq_true hnd,.nil,fun i hi=>aDf (List.all_eq_true.1 hlt i hi),zB ha,hs,hc,?_⟩
 simp only [Option.getD_some,aCy,hfr,hv,hσ]
 exact h
theorem xI {fo:Operand}{args:Array Operand}{ts:Array TypeId}{f:FuncId}{caps as:List AV}{σc σr σ':St}{rv:AV}{fr1:Fr} (k:Nat) (ids lt:List Nat) (hf:fr.ev fo=.fn f caps) (hc:cC P f as σc rv σr) (hnd:decide ids.Nodup=true) (hltn:decide lt.Nodup=true) (hlt:(ids.all fun i=>Nat.blt i σ.length)=true)
  (ha:leP (AV.lowTL lt ids (args.toList.map fr.ev++caps)) as) (hs:leS (σ.sub ids lt) σc) (hfr:(fr.dem (vY lt k))=fr1) (hv:rv.lift ids σ.length k=v) (hσ:σ.after ids k σr lt=σ') (h:gP mo P all r ((d,v) :: fr1) σ' K) :
  gP mo P all (⟨some d,.call { callee:=.value fo,args:=args,argTypes:=ts },ty,pos,af,none⟩ :: r) fr σ K:=by
 refine mR ?_
 unfold aop
 simp only [hf,aDX]
 refine ⟨k,ids,lt,as,σc,rv,σr,of_decide_eq_true hnd,of_decide_eq_true hltn,fun i hi=>aDf (List.all_eq_true.1 hlt i hi),zB ha,hs,hc,?_⟩
 simp only [Option.getD_some,hfr,hv,hσ]
 exact h
theorem aLa {dst:Option Tmp}{gd:Option (Nat × Bool)}{fo:Operand}{args:Array Operand}{ts:Array TypeId}{f:FuncId}{caps as:List AV}{rv:AV} (hf:fr.ev fo=.fn f caps) (hc:cC P f as [] rv []) (ha:leP (AV.lowL [] (args.toList.map fr.ev++caps)) as) (hv:rv.low []=v) :
  Qv P ⟨dst,.call { callee:=.value fo,args:=args,argTypes:=ts },ty,pos,af,gd⟩ fr σ v:=fun K hk=>by
 unfold aLD
 simp only [hf]
 exact ⟨as,rv,zB ha,hc,by rw [hv];exact hk⟩
end
section
variable {P:Program}{V:List Nat}{k0:Nat}{Q:Exit→Fr→St→Prop}{fr:Fr}{σ:St}{K:Fr→St→Prop}
theorem dT {all:List Oper}{fr':Fr} (hp:prune V fr=fr') (h:Q .normal fr' σ):gP mo P all [] fr σ fun fr σ=>hold (Q .normal (prune V fr) σ):=by
 subst hp;exact h
theorem iV (h:K fr σ):aA8 K Q .normal fr σ:=h
theorem aN (h:Q .ret fr σ):aA8 K Q .ret fr σ:=h
theorem cX {id:Nat} (h:Q (.exit id) fr σ):aA8 K Q (.exit id) fr σ:=h
theorem dH {id:Nat} (h:Q .normal fr σ):aMS id Q .normal fr σ:=h
theorem bN {id:Nat} (h:Q .ret fr σ):aMS id Q .ret fr σ:=h
theorem fU {id:Nat} (h:Q .normal fr σ):aMS id Q (.exit id) fr σ:=by simp only [aMS,if_true];exact h
theorem gT {c:Operand}{x y:Code} (h:fr.ev c=.c (.bool true)) (h1:pR P V k0 x Q fr σ):pR P V k0 (.cond c x y) Q fr σ:=aH6 true h (fun _=>h1) (fun e=>by cases e)
theorem aBh {c:Operand}{x y:Code} (h:fr.ev c=.c (.bool false)) (h1:pR P V k0 y Q fr σ):pR P V k0 (.cond c x y) Q fr σ:=aH6 false h (fun e=>by cases e) (fun _=>h1)
theorem nB {x y:Code}{J:Type} (C:J→Prop) (F:J→Fr) (G:J→St) (h:pR P V k0 x (aA8 (fun fr σ=>∃ j,C j∧kK k0 fr σ (F j) (G j)) Q) fr σ) (h2:∀ j,C j→pR P V k0 y Q (F j) (G j)):pR P V k0 (.seq x y) Q fr σ :=
 aQQ (fun fr σ=>∃ j,C j∧fr=F j∧σ=G j) (yE x (fun e fr σ he=>by
  cases e with
  | normal=>obtain ⟨j,h1,h2⟩:=he;exact ⟨F j,G j,h2,j,h1,rfl,rfl⟩
  | _=>exact he) h) (fun fr σ he=>by obtain ⟨j,hj,rfl,rfl⟩:=he;exact h2 j hj)
theorem gU {c:Code}{S R:Type} (body:S→Option (bS S R)) (F:S→Fr) (G:S→St) {s0:S}{r:R} (h0:dL body s0=some r) (hw:kK k0 fr σ (F s0) (G s0))
  (h:∀ s st,body s=some st→(∀ r',st=.out r'→r'=r)→pR P V k0 c (aA8 (fun fr σ=>∃ s',st=.next s'∧kK k0 fr σ (F s') (G s')) Q) (F s) (G s)):pR P V k0 (.loop c) Q fr σ:=by
 obtain ⟨n,hn⟩:=wC h0
 refine aP8 (fun m fr σ=>∃ s,uZ body m s=some r∧fr=F s∧σ=G s) n hw ⟨s0,hn,rfl,rfl⟩ ?_
 rintro m fr σ ⟨s,hs,rfl,rfl⟩
 cases m with
 | zero=>cases hs
 | succ m =>
  simp only [uZ] at hs
  obtain ⟨st,h1,h2⟩:=aG hs
  refine yE c (fun e fr σ he=>?_) (h s st h1 (fun r' e=>by subst e;cases h2;rfl))
  cases e with
  | normal=>obtain ⟨s',rfl,hw⟩:=he;exact ⟨m,F s',G s',by omega,hw,s',h2,rfl,rfl⟩
  | _=>exact he
theorem bT (toks:List Nat) (m:Nat) {fr':Fr}{σ':St} (hnd:decide toks.Nodup=true) (hm:Nat.ble k0 m=true) (hf:fr'.inB m=true) (hb:St.inB m ((σ.retok toks).take m)=true) (h:Fr.below (fr.retok toks) fr') (hs:leS ((σ.retok toks).take m) σ'):kK k0 fr σ fr' σ' :=
 aIa toks (of_decide_eq_true hnd) m h (aDe hm) hf hs hb
theorem bG {A:List AV→Prop} (h:A []):jJ P fr σ [] A:=h
theorem bP {t:Nat}{v:AV}{rs:List ResultVar}{A:List AV→Prop} (hv:fr.get t=v) (h:jJ P fr σ rs fun vs=>A (v :: vs)):jJ P fr σ (.tmp t :: rs) A:=by
 simp only [jJ,hv];exact h
theorem fA {a id off n:Nat}{t:TypeId}{cs us:List AV}{rs:List ResultVar}{A:List AV→Prop} (ht:gK P t=some (true,n)) (ha:fr.get a=.box id off) (hs:σ[id]?=some cs) (hn:Nat.ble (off+n) cs.length=true) (hc:(cs.drop off).take n=us) (h:jJ P fr σ rs fun vs=>A (.agg us :: vs)):jJ P fr σ (.cell a t :: rs) A:=by
 simp only [jJ,ht,ha,tU,hs];subst hc;exact ⟨aDe hn,h⟩
theorem bH {rs rs':List ResultVar}{r:AV}{σr:St} (hrs:rs=rs') (h:jJ P fr σ rs' fun vs=>Fin k0 (aJm vs) σ r σr):aPt P rs k0 r σr .ret fr σ:=by subst hrs;exact h
theorem aO3 {rs rs':List ResultVar}{r:AV}{σr:St} (hrs:rs=rs') (h:jJ P fr σ rs' fun vs=>Fin k0 (aJm vs) σ r σr):aPt P rs k0 r σr .normal fr σ:=by subst hrs;exact h
theorem aQ {rv r:AV}{σr:St} (toks:List Nat) (hnd:decide toks.Nodup=true) (hin:(rv.retok toks).inB k0=true) (hb:St.inB k0 (St.dem vT (σ.take k0))=true) (hr:(rv.retok toks).le r) (hσ:leS (St.dem vT (σ.take k0)) σr):Fin k0 rv σ r σr :=
 aM7 toks (of_decide_eq_true hnd) hin (aK0 rfl hb) hr hσ
theorem aK1 {rv r:AV}{σr:St} (toks:List Nat) (hnd:decide toks.Nodup=true) (hin:rv.inB k0=true) (hb:St.inB k0 (σ.take k0)=true) (hr:(rv.retok toks).le r) (hσ:leS (St.retok toks (σ.take k0)) σr):Fin k0 rv σ r σr:=by
 intro c g w v hk hi hv
 have hf:oN g w #[v] [(0,rv)]:=fun d=>by
  simp only [Fr.get]
  split
  ·
   rename_i e;subst e;exact hv
  ·
   exact .any
 have w1:kK k0 [(0,rv)] σ [(0,rv)] (σ.take k0):=kK.take (Nat.le_refl _) (fun d=>by
  simp only [Fr.get]
  split
  ·
   exact hin
  ·
   rfl) (fun i cs hi hcs=>St.inB_get hb i cs (by rw [List.getElem?_take_of_lt hi];exact hcs))
 obtain ⟨g1,hi1,hf1⟩:=w1 c g w #[v] hk hi hf
 obtain ⟨g2,hi2,hf2⟩:=kK.retok (k0:=k0) (fr:=[(0,rv)]) (σ:=σ.take k0) toks (of_decide_eq_true hnd) c g1 w #[v] hk hi1 hf1
 obtain ⟨g3,hi3,hf3⟩:=kK.cells (k0:=k0) (fr:=Fr.retok toks [(0,rv)]) hσ c g2 w #[v] hk hi2 hf2
 exact ⟨g3,hi3,hr _ _ _ (hf3 0)⟩
theorem aOg {j off:Nat}{cs0:List AV}{rv:AV}{σr:St} (hv:rv=.box j off) (hj:Nat.ble k0 j=true) (hcs:σ[j]?=some cs0) (hcin:AV.inB.inBL k0 (AV.demL vT cs0)=true) (hb:St.inB k0 (St.dem vT (σ.take k0))=true) (hσ:leS (St.dem vT (σ.take k0)++[AV.demL vT cs0]) σr):Fin k0 rv σ (.box k0 off) σr:=by
 subst hv
 exact aOf (aDe hj) hcs hcin (aK0 rfl hb) hσ
end
theorem fI {τ κ:Type}{t y:τ}{x:Fl τ κ}{f:κ→Option τ} (h:some (Fl.done t)=some x) (h2:x.next f=some y):some t=some y:=by cases h;exact h2
theorem nG {τ κ:Type}{j:κ}{y:τ}{x:Fl τ κ}{f:κ→Option τ} (h:x=Fl.go j) (h2:x.next f=some y):f j=some y:=by subst h;exact h2
theorem eY {σ ρ:Type}{r r':ρ}{st:bS σ ρ} (h:some (bS.out r')=some st) (h2:∀ r',st=.out r'→r'=r):some r'=some r:=by
 rw [h2 r' (Option.some.inj h).symm]
end Go.Proofs.YtnigjppddilpcaaGreatDoor.Abs

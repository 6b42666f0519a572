/- A small logic over the walk's own: pure data, abstract values, and how they stand to the machine's values and memory. The rules of the operations: what an operation does to abstract values. The rules of the operations, their soundness: each operation's run gives what its rule tells. Appending: onto nothing or onto a row of the call's own; what is appended is a slice's or a string's. What an operation does to abstract values, and that the machine's operation does it. -/
import Derived.Test.YtnigjppddilpcaaGreatDoorAl
import Derived.Below
import Derived.Laws.AppendOwn
import Derived.Laws.NewBlocks
import Derived.WalkKit
import Derived.Tactics
import Derived.KernelRfl
import Derived.Laws.StructEq
import Derived.Laws.Build
import Derived.Lib.AppendStr
namespace Go.Proofs.YtnigjppddilpcaaGreatDoor.Abs
open Go
set_option linter.unusedVariables false
set_option linter.unusedSimpArgs false
inductive PV where
 | bool (b:Bool)
 | int (k:IntKind) (n:Int)
 | str (s:List UInt8)
 | list (sz:Nat) (xs:List (List PV))
inductive AV where
 | c (p:PV)
 | nil
 | own (t sz:Nat) (xs:List (List PV))
 | agg (cs:List AV)
 | tup (vs:List AV)
 | box (id off:Nat)
 | eptr (cs:List PV) (off:Nat)
 | ptrs (l:List (Nat × Nat))
 | view (id off n:Nat)
 | mrow (t sz:Nat) (xs:List (List PV))
 | mptr (t sz i off:Nat) (row:List PV)
 | pptr (p:Nat × Nat)
 | fn (f:FuncId) (caps:List AV)
 | nilptr
 | any
structure G where
 I:Nat→Nat→Prop
 β:List Nat
 τ:Nat→Option Nat
abbrev St:=List (List AV)
abbrev Fr:=List (Nat × AV)
inductive RV (I:Nat→Nat→Prop) (w:World):Value→PV→Prop
 | bool (b:Bool):RV I w (.bool b) (.bool b)
 | int (k:IntKind) (n:Int):RV I w (.int k n) (.int k n)
 | str (s:List UInt8):RV I w (.string ⟨s.toArray⟩) (.str s)
 | empty (A:Option Addr) (cap sz:Nat):RV I w (.slice A 0 cap) (.list sz [])
 | row (b o cap sz:Nat) (xs:List (List PV)) (vs:Nat→Value) (hs:∀ x∈xs,x.length=sz) (hcap:xs.length≤cap)
  (hc:∀ j,j<xs.length*sz→I b (o+j)∧w.cell? ⟨b,o+j,none⟩=some (vs j))
  (hv:∀ (i j:Nat) (x:List PV) (p:PV),xs[i]?=some x→x[j]?=some p→RV I w (vs (i*sz+j)) p):RV I w (.slice (some ⟨b,o,none⟩) xs.length cap) (.list sz xs)
theorem RV.mono {I I':Nat→Nat→Prop}{w w':World} (hI:∀ b o,I b o→I' b o) (hw:∀ b o,I b o→w'.cell? ⟨b,o,none⟩=w.cell? ⟨b,o,none⟩) {v:Value}{p:PV} (h:RV I w v p):RV I' w' v p:=by
 induction h with
 | bool b=>exact .bool b
 | int k n=>exact .int k n
 | str s=>exact .str s
 | empty A cap sz=>exact .empty A cap sz
 | row b o cap sz xs vs hs hcap hc _ ih=>exact .row b o cap sz xs vs hs hcap (fun j hj=>⟨hI _ _ (hc j hj).1,(hw _ _ (hc j hj).1).trans (hc j hj).2⟩) ih
theorem RV.one {I:Nat→Nat→Prop}{w:World}{v:Value}{p:PV} (h:RV I w v p):v.oneCell'=true:=by cases h <;> rfl
def aMK (g:G) (w:World) (v:Value) (t sz:Nat) (xs:List (List PV)):Prop :=
 0<sz∧(∀ x∈xs,x.length=sz)∧∃ e cells,w.ownsRow 0 e sz v xs.length cells ∧
  (∀ (i j:Nat) (x:List PV) (p:PV),xs[i]?=some x→x[j]?=some p→∃ u,cells[i*sz+j]?=some u∧RV g.I w u p) ∧
  ∀ b,v.ownBlock=some b→g.τ t=some b∧∀ o,g.I b o↔o<xs.length*sz
def aQh (g:G) (w:World) (v:Value) (t sz:Nat) (xs:List (List PV)):Prop :=
 0<sz∧(∀ x∈xs,x.length=sz)∧∃ e cells,w.ownsRow 0 e sz v xs.length cells ∧
  (∀ (i j:Nat) (x:List PV) (p:PV),xs[i]?=some x→x[j]?=some p→∃ u,cells[i*sz+j]?=some u∧RV g.I w u p) ∧
  ∀ b,v.ownBlock=some b→g.τ t=some b∧∀ o,¬g.I b o
def aMJ (g:G) (w:World) (v:Value) (t sz i off:Nat) (row:List PV):Prop :=
 ∃ b cur e,v=.pointer (some ⟨b,i*sz+off,none⟩)∧g.τ t=some b∧(∀ o,¬g.I b o)∧row.length=sz∧i*sz+sz≤cur.size∧w.heap[b]?=some (.cells cur e (0,0)) ∧
  ∀ (j:Nat) (p:PV),row[j]?=some p→∃ u,cur[i*sz+j]?=some u∧RV g.I w u p
inductive nA (g:G) (w:World):Value→AV→Prop
 | c {v:Value}{p:PV} (h:RV g.I w v p):nA g w v (.c p)
 | nil:nA g w (.slice none 0 0) .nil
 | own {v:Value} (t sz:Nat) (xs:List (List PV)) (h:aMK g w v t sz xs):nA g w v (.own t sz xs)
 | agg (vs:Array Value) (cs:List AV) (h:vs.size=cs.length) (ha:∀ (i:Nat) (v:Value) (a:AV),vs[i]?=some v→cs[i]?=some a→nA g w v a):nA g w (.agg vs) (.agg cs)
 | tup (vs:Array Value) (cs:List AV) (h:vs.size=cs.length) (ha:∀ (i:Nat) (v:Value) (a:AV),vs[i]?=some v→cs[i]?=some a→nA g w v a):nA g w (.tuple vs) (.tup cs)
 | box (id off b:Nat) (h:g.β[id]?=some b):nA g w (.pointer (some ⟨b,off,none⟩)) (.box id off)
 | eptr (b o off:Nat) (cs:List PV) (vs:Nat→Value) (hc:∀ j,j<cs.length→g.I b (o+j)∧w.cell? ⟨b,o+j,none⟩=some (vs j)) (hv:∀ (j:Nat) (p:PV),cs[j]?=some p→RV g.I w (vs j) p) :
  nA g w (.pointer (some ⟨b,o+off,none⟩)) (.eptr cs off)
 | ptrs (b o cap:Nat) (l:List (Nat × Nat)) (hcap:l.length≤cap)
  (hc:∀ (i:Nat) (p:Nat × Nat),l[i]?=some p→g.I b (o+i)∧∃ bk,g.β[p.1]?=some bk∧w.cell? ⟨b,o+i,none⟩=some (.pointer (some ⟨bk,p.2,none⟩))) :
  nA g w (.slice (some ⟨b,o,none⟩) l.length cap) (.ptrs l)
 | view (id off n b cap:Nat) (h:g.β[id]?=some b) (hn:n≤cap):nA g w (.slice (some ⟨b,off,none⟩) n cap) (.view id off n)
 | mrow {v:Value} (t sz:Nat) (xs:List (List PV)) (h:aQh g w v t sz xs):nA g w v (.mrow t sz xs)
 | mptr {v:Value} (t sz i off:Nat) (row:List PV) (h:aMJ g w v t sz i off row):nA g w v (.mptr t sz i off row)
 | pptr (b o bk:Nat) (p:Nat × Nat) (hi:g.I b o) (hb:g.β[p.1]?=some bk) (hc:w.cell? ⟨b,o,none⟩=some (.pointer (some ⟨bk,p.2,none⟩))) :
  nA g w (.pointer (some ⟨b,o,none⟩)) (.pptr p)
 | fn (f:FuncId) (vs:Array Value) (cs:List AV) (h:vs.size=cs.length) (ha:∀ (i:Nat) (v:Value) (a:AV),vs[i]?=some v→cs[i]?=some a→nA g w v a):nA g w (.func (.func f) #[] vs) (.fn f cs)
 | nilptr:nA g w (.pointer none) .nilptr
 | any {v:Value}:nA g w v .any
structure Stp (g:G) (w:World) (g':G) (w':World):Prop where
 I:∀ b o,g.I b o→g'.I b o
 cell:∀ b o,g.I b o→w'.cell? ⟨b,o,none⟩=w.cell? ⟨b,o,none⟩
 β:∀ (id b:Nat),g.β[id]?=some b→g'.β[id]?=some b
 τ:∀ t b,g.τ t=some b→g'.τ t=some b∧w'.heap[b]?=w.heap[b]?∧∀ o,g'.I b o→g.I b o
theorem Stp.refl (g:G) (w:World):Stp g w g w:=⟨fun _ _ h=>h,fun _ _ _=>rfl,fun _ _ h=>h,fun _ _ h=>⟨h,rfl,fun _ h=>h⟩⟩
theorem aGJ {w w':World}{base size n:Nat}{e:TypeId}{v:Value}{xs:List Value} (h:w.ownsRow base e size v n xs) (hh:∀ b,v.ownBlock=some b→w'.heap[b]?=w.heap[b]?):w'.ownsRow base e size v n xs:=by
 refine ⟨h.1,?_⟩
 rcases h.2 with hn | ⟨g,cap,cur,rfl,hb,hg,rest⟩
 ·
  exact .inl hn
 ·
  exact .inr ⟨g,cap,cur,rfl,hb,by rw [hh g rfl];exact hg,rest⟩
theorem RV.stp {g g':G}{w w':World} (s:Stp g w g' w') {v:Value}{p:PV} (h:RV g.I w v p):RV g'.I w' v p:=h.mono s.I s.cell
theorem aQh.stp {g g':G}{w w':World} (s:Stp g w g' w') {v:Value}{t sz:Nat}{xs:List (List PV)} (h:aQh g w v t sz xs):aQh g' w' v t sz xs:=by
 obtain ⟨h0,hs,e,cells,ho,hv,hb⟩:=h
 refine ⟨h0,hs,e,cells,aGJ ho (fun b hb'=>(s.τ t b (hb b hb').1).2.1),fun i j x p hx hp=>?_,fun b hb'=>?_⟩
 ·
  obtain ⟨u,hu,hr⟩:=hv i j x p hx hp
  exact ⟨u,hu,hr.stp s⟩
 ·
  obtain ⟨h1,h2⟩:=hb b hb'
  obtain ⟨h3,_,h4⟩:=s.τ t b h1
  exact ⟨h3,fun o h=>h2 o (h4 o h)⟩
theorem aMJ.stp {g g':G}{w w':World} (s:Stp g w g' w') {v:Value}{t sz i off:Nat}{row:List PV} (h:aMJ g w v t sz i off row):aMJ g' w' v t sz i off row:=by
 obtain ⟨b,cur,e,hv,ht,hI,hl,hc,hh,hr⟩:=h
 obtain ⟨h3,h5,h4⟩:=s.τ t b ht
 refine ⟨b,cur,e,hv,h3,fun o h=>hI o (h4 o h),hl,hc,h5.trans hh,fun j p hp=>?_⟩
 obtain ⟨u,hu,hr⟩:=hr j p hp
 exact ⟨u,hu,hr.stp s⟩
theorem nA.stp {g g':G}{w w':World} (s:Stp g w g' w') {v:Value}{a:AV} (h:nA g w v a):nA g' w' v a:=by
 induction h with
 | c h=>exact .c (h.stp s)
 | nil=>exact .nil
 | own t sz xs h =>
  obtain ⟨h0,hs,e,cells,ho,hv,hb⟩:=h
  refine .own t sz xs ⟨h0,hs,e,cells,aGJ ho (fun b hb'=>(s.τ t b (hb b hb').1).2.1),fun i j x p hx hp=>?_,fun b hb'=>?_⟩
  ·
   obtain ⟨u,hu,hr⟩:=hv i j x p hx hp
   exact ⟨u,hu,hr.stp s⟩
  ·
   obtain ⟨h1,h2⟩:=hb b hb'
   obtain ⟨h3,_,h4⟩:=s.τ t b h1
   exact ⟨h3,fun o=>⟨fun h=>(h2 o).1 (h4 o h),fun h=>s.I _ _ ((h2 o).2 h)⟩⟩
 | agg vs cs h _ ih=>exact .agg vs cs h ih
 | tup vs cs h _ ih=>exact .tup vs cs h ih
 | box id off b h=>exact .box id off b (s.β _ _ h)
 | eptr b o off cs vs hc hv=>exact .eptr b o off cs vs (fun j hj=>⟨s.I _ _ (hc j hj).1,(s.cell _ _ (hc j hj).1).trans (hc j hj).2⟩) (fun j p hp=>(hv j p hp).stp s)
 | ptrs b o cap l hcap hc =>
  refine .ptrs b o cap l hcap (fun i p hp=>?_)
  obtain ⟨h1,bk,h2,h3⟩:=hc i p hp
  exact ⟨s.I _ _ h1,bk,s.β _ _ h2,(s.cell _ _ h1).trans h3⟩
 | view id off n b cap h hn=>exact .view id off n b cap (s.β _ _ h) hn
 | mrow t sz xs h=>exact .mrow t sz xs (h.stp s)
 | mptr t sz i off row h=>exact .mptr t sz i off row (h.stp s)
 | pptr b o bk p hi hb hc=>exact .pptr b o bk p (s.I _ _ hi) (s.β _ _ hb) ((s.cell _ _ hi).trans hc)
 | fn f vs cs h _ ih=>exact .fn f vs cs h ih
 | nilptr=>exact .nilptr
 | any=>exact .any
mutual
def AV.dem (f:Nat→Bool):AV→AV
 | .own t sz xs=>if f t then .c (.list sz xs) else .own t sz xs
 | .mrow t sz xs=>if f t then .any else .mrow t sz xs
 | .mptr t sz i off row=>if f t then .any else .mptr t sz i off row
 | .agg cs=>.agg (AV.demL f cs)
 | .tup cs=>.tup (AV.demL f cs)
 | .fn g cs=>.fn g (AV.demL f cs)
 | a=>a
def AV.demL (f:Nat→Bool):List AV→List AV
 | []=>[]
 | a :: as=>AV.dem f a :: AV.demL f as
end
theorem AV.demL_eq (f:Nat→Bool) (l:List AV):AV.demL f l=l.map (AV.dem f):=by
 induction l with
 | nil=>rfl
 | cons a l ih=>simp [AV.demL,ih]
def G.dem (g:G) (f:Nat→Bool):G:={ g with τ:=fun t=>if f t then none else g.τ t }
theorem aMK.rv {g:G}{w:World}{v:Value}{t sz:Nat}{xs:List (List PV)} (h:aMK g w v t sz xs):RV g.I w v (.list sz xs):=by
 obtain ⟨h0,hs,e,cells,ho,hv,hb⟩:=h
 rcases ho.2 with ⟨rfl,hn⟩ | ⟨b,cap,cur,rfl,_,hg,hn,_,_,_⟩
 ·
  obtain rfl:xs=[]:=eM hn
  exact .empty none 0 sz
 ·
  have hc:=ho.cells (g:=b) rfl
  refine .row b 0 cap sz xs (fun j=>cells.getD j undef) hs hn (fun j hj=>⟨((hb b rfl).2 _).2 (by omega),?_⟩) (fun i j x p hx hp=>?_)
  ·
   have hj':j<cells.length:=by have:=ho.1;omega
   have:=hc j _ (aM hj')
   rw [Addr.add_lit] at this
   simpa [bZ,aM hj'] using this
  ·
   obtain ⟨u,hu,hr⟩:=hv i j x p hx hp
   simpa [bZ,hu] using hr
theorem nA.dem {g:G}{w:World}{v:Value}{a:AV} (f:Nat→Bool) (h:nA g w v a):nA (g.dem f) w v (a.dem f):=by
 induction h with
 | c h=>exact .c h
 | nil=>exact .nil
 | own t sz xs h =>
  simp only [AV.dem]
  split
  ·
   exact .c h.rv
  ·
   rename_i hf
   obtain ⟨h0,hs,e,cells,ho,hv,hb⟩:=h
   exact .own t sz xs ⟨h0,hs,e,cells,ho,hv,fun b hb'=>⟨by simp only [G.dem,hf];exact (hb b hb').1,(hb b hb').2⟩⟩
 | agg vs cs h _ ih =>
  simp only [AV.dem,AV.demL_eq]
  refine .agg vs _ (by simpa using h) (fun i v a hv ha=>?_)
  simp only [bY,bV] at ha
  obtain ⟨a,ha,rfl⟩:=ha
  exact ih i v a hv ha
 | tup vs cs h _ ih =>
  simp only [AV.dem,AV.demL_eq]
  refine .tup vs _ (by simpa using h) (fun i v a hv ha=>?_)
  simp only [bY,bV] at ha
  obtain ⟨a,ha,rfl⟩:=ha
  exact ih i v a hv ha
 | box id off b h=>exact .box id off b h
 | eptr b o off cs vs hc hv=>exact .eptr b o off cs vs hc hv
 | ptrs b o cap l hcap hc=>exact .ptrs b o cap l hcap hc
 | view id off n b cap h hn=>exact .view id off n b cap h hn
 | mrow t sz xs h =>
  simp only [AV.dem]
  split
  ·
   exact .any
  ·
   rename_i hf
   obtain ⟨h0,hs,e,cells,ho,hv,hb⟩:=h
   exact .mrow t sz xs ⟨h0,hs,e,cells,ho,hv,fun b hb'=>⟨by simp only [G.dem,hf];exact (hb b hb').1,(hb b hb').2⟩⟩
 | mptr t sz i off row h =>
  simp only [AV.dem]
  split
  ·
   exact .any
  ·
   rename_i hf
   obtain ⟨b,cur,e,hv,ht,hI,hl,hc,hh,hr⟩:=h
   exact .mptr t sz i off row ⟨b,cur,e,hv,by simp only [G.dem,hf];exact ht,hI,hl,hc,hh,hr⟩
 | pptr b o bk p hi hb hc=>exact .pptr b o bk p hi hb hc
 | fn k vs cs h _ ih =>
  simp only [AV.dem,AV.demL_eq]
  refine .fn k vs _ (by simpa using h) (fun i v a hv ha=>?_)
  simp only [bY,bV] at ha
  obtain ⟨a,ha,rfl⟩:=ha
  exact ih i v a hv ha
 | nilptr=>exact .nilptr
 | any=>exact .any
def Fr.get:Fr→Nat→AV
 | [],_=>.any
 | (i,a) :: r,d=>if d=i then a else Fr.get r d
def Fr.dem (f:Nat→Bool):Fr→Fr
 | []=>[]
 | (i,a) :: r=>(i,a.dem f) :: Fr.dem f r
def Fr.put (dst:Option Tmp) (a:AV) (fr:Fr):Fr:=match dst with | none=>fr | some d=>(d,a) :: fr
def St.dem (f:Nat→Bool):St→St
 | []=>[]
 | cs :: r=>AV.demL f cs :: St.dem f r
theorem Fr.get_dem (f:Nat→Bool) (fr:Fr) (d:Nat):(fr.dem f).get d=(fr.get d).dem f:=by
 induction fr with
 | nil=>rfl
 | cons x r ih =>
  obtain ⟨i,a⟩:=x
  simp only [Fr.dem,Fr.get]
  split
  ·
   rfl
  ·
   exact ih
theorem St.dem_eq (f:Nat→Bool) (σ:St):σ.dem f=σ.map (·.map (AV.dem f)):=by
 induction σ with
 | nil=>rfl
 | cons x r ih=>simp [St.dem,AV.demL_eq,ih]
def yV (g:G) (w:World) (tmps:Array Value) (fr:Fr):Prop:=∀ d,nA g w (tmps.getD d undef) (fr.get d)
def gB (g:G) (w:World) (vs:Array Value) (cs:List AV):Prop :=
 vs.size=cs.length∧∀ (i:Nat) (v:Value) (a:AV),vs[i]?=some v→cs[i]?=some a→nA g w v a
def aUs (g:G) (w:World) (b:Nat) (cs:List AV):Prop:=∃ cur e,w.heap[b]?=some (.cells cur e (0,0))∧gB g w cur cs
theorem yV.stp {g g':G}{w w':World} (s:Stp g w g' w') {tmps:Array Value}{fr:Fr} (h:yV g w tmps fr):yV g' w' tmps fr:=fun d=>(h d).stp s
theorem yV.dem {g:G}{w:World} (f:Nat→Bool) {tmps:Array Value}{fr:Fr} (h:yV g w tmps fr):yV (g.dem f) w tmps (fr.dem f):=fun d=>by
 rw [Fr.get_dem];exact (h d).dem f
theorem gB.stp {g g':G}{w w':World} (s:Stp g w g' w') {vs:Array Value}{cs:List AV} (h:gB g w vs cs):gB g' w' vs cs:=⟨h.1,fun i v a hv ha=>(h.2 i v a hv ha).stp s⟩
theorem gB.dem {g:G}{w:World} (f:Nat→Bool) {vs:Array Value}{cs:List AV} (h:gB g w vs cs):gB (g.dem f) w vs (cs.map (AV.dem f)):=by
 refine ⟨by simpa using h.1,fun i v a hv ha=>?_⟩
 simp only [bY,bV] at ha
 obtain ⟨a,ha,rfl⟩:=ha
 exact (h.2 i v a hv ha).dem f
theorem yV.put {g:G}{w:World}{tmps:Array Value}{fr:Fr} (h:yV g w tmps fr) {dst:Option Tmp}{v:Value}{av:AV} (hd:∀ d,dst=some d→d<tmps.size) (hv:nA g w v av) :
  yV g w (Act.put ⟨tmps,[]⟩ dst v).tmps (fr.put dst av):=by
 cases dst with
 | none=>exact h
 | some d =>
  intro k
  have hlt:=hd d rfl
  simp only [Act.put,Fr.put,Fr.get]
  split
  ·
   rename_i e
   subst e
   simpa [dY,Array.getElem?_setIfInBounds_self_of_lt hlt] using hv
  ·
   rename_i e
   have:=h k
   simpa [dY,nR (kQ e)] using this
structure Ctx where
 w0:World
 I0:Nat→Nat→Prop
 β0:List Nat
 O0:Nat→Prop
def aRZ:List (Nat × (Array Value→Prop)):=[(0,fun cs=>∃ t p,cs=#[.iface t p]),(1,fun cs=>∃ t p,cs=#[.iface t p]),(3,fun cs=>cs=(([1,10,100,1000,10000,100000,1000000,10000000,100000000,1000000000,10000000000,100000000000,1000000000000,10000000000000,100000000000000,1000000000000000,10000000000000000,100000000000000000,1000000000000000000,10000000000000000000]:List Int).map fun z=>Value.int .u64 z).toArray)]
def Glo (I:Nat→Nat→Prop) (w:World):Prop:=∀ x∈aRZ,(∀ o,I x.1 o)∧∃ cs e l,w.heap[x.1]?=some (.cells cs e l)∧0<cs.size∧x.2 cs
theorem Glo.mono {I I':Nat→Nat→Prop}{w w':World} (hI:∀ b o,I b o→I' b o) (hc:∀ b o,I b o→w'.cell? ⟨b,o,none⟩=w.cell? ⟨b,o,none⟩) (h:Glo I w):Glo I' w':=fun x hx=>by
 obtain ⟨h1,cs,e,l,h2,h3,h4⟩:=h x hx
 refine ⟨fun o=>hI _ _ (h1 o),?_⟩
 have h5:∀ o,w'.cell? ⟨x.1,o,none⟩=cs[o]?:=fun o=>by
  rw [hc _ _ (h1 o)]
  simp [World.cell?,h2]
 have h0:=h5 0
 cases hb:w'.heap[x.1]? with
 | none=>rw [eQ h3] at h0;simp [World.cell?,hb] at h0
 | some ob =>
  cases ob with
  | cells cs' e' l' =>
   have:cs'=cs:=Array.ext_getElem? fun o=>by
    have:=h5 o
    simpa [World.cell?,hb] using this
   exact ⟨cs',e',l',rfl,this ▸ h3,this ▸ h4⟩
  | _=>rw [eQ h3] at h0;simp [World.cell?,hb] at h0
structure tT (c:Ctx) (g:G) (w:World) (σ:St):Prop where
 os:w.os=c.w0.os
 tape:w.tape=c.w0.tape
 output:w.output=c.w0.output
 size:c.w0.heap.size≤w.heap.size
 old:∀ b,b<c.w0.heap.size→b ∉ c.β0→¬c.O0 b→w.heap[b]?=c.w0.heap[b]?
 Ile:∀ b o,c.I0 b o→g.I b o
 Iold:∀ b o,g.I b o→b<c.w0.heap.size→¬c.O0 b→c.I0 b o
 Ilt:∀ b o,g.I b o→b<w.heap.size
 βpre:g.β.take c.β0.length=c.β0
 βnew:∀ b∈g.β.drop c.β0.length,c.w0.heap.size≤b
 βnd:g.β.Nodup
 βlen:g.β.length=σ.length
 βI:∀ b∈g.β,∀ o,¬g.I b o
 βlt:∀ b∈g.β,b<w.heap.size
 τnew:∀ t b,g.τ t=some b→(c.w0.heap.size≤b∨c.O0 b)∧b<w.heap.size∧b ∉ g.β
 τinj:∀ t t' b,g.τ t=some b→g.τ t'=some b→t=t'
 store:∀ (id:Nat) cs b,σ[id]?=some cs→g.β[id]?=some b→aUs g w b cs
 cell0:∀ b o,c.I0 b o→w.cell? ⟨b,o,none⟩=c.w0.cell? ⟨b,o,none⟩
 glo:Glo c.I0 c.w0
theorem tT.dem {c:Ctx}{g:G}{w:World}{σ:St} (f:Nat→Bool) (h:tT c g w σ):tT c (g.dem f) w (σ.dem f) where
 os:=h.os
 tape:=h.tape
 output:=h.output
 size:=h.size
 old:=h.old
 Ile:=h.Ile
 Iold:=h.Iold
 Ilt:=h.Ilt
 βpre:=h.βpre
 βnew:=h.βnew
 βnd:=h.βnd
 βlen:=by rw [St.dem_eq,gG];exact h.βlen
 βI:=h.βI
 βlt:=h.βlt
 τnew:=fun t b ht=>h.τnew t b (by simp only [G.dem] at ht;split at ht <;> simp_all)
 τinj:=fun t t' b ht ht'=>h.τinj t t' b (by simp only [G.dem] at ht;split at ht <;> simp_all) (by simp only [G.dem] at ht';split at ht' <;> simp_all)
 store:=fun id cs b hs hb=>by
  rw [St.dem_eq,bY,bV] at hs
  obtain ⟨cs,hs,rfl⟩:=hs
  obtain ⟨cur,e,hh,hc⟩:=h.store id cs b hs hb
  exact ⟨cur,e,hh,hc.dem f⟩
 cell0:=h.cell0
 glo:=h.glo
theorem tT.now {c:Ctx}{g:G}{w:World}{σ:St} (h:tT c g w σ):Glo g.I w:=h.glo.mono h.Ile h.cell0
def lV (P:Program) (t:TypeId):Option (TypeId × Nat × Nat) :=
 match P.underlying t with
 | some (.slice e)=>match P.info? e with
  | some i=>match i.zero with
   | some z=>if z.cells.size=i.size∧0<i.size then some (e,i.size,i.bytes) else none
   | none=>none
  | none=>none
 | _=>none
def kX (P:Program) (t:TypeId):Option (Bool × Nat) :=
 match P.underlying t,P.info? t with
 | some (.struct _),some i=>some (true,i.size)
 | some (.array _ _),some i=>some (true,i.size)
 | some _,some i=>some (false,i.size)
 | _,_=>none
def aCw (P:Program) (t:TypeId):Option (Array Field):=match P.underlying t with | some (.struct fs)=>some fs | _=>none
def eH (P:Program) (t:TypeId) (f:Nat):Option (Nat × Bool × Nat) :=
 match aCw P t with
 | some fs=>match fs[f]? with
  | some x=>match kX P x.type with
   | some (ag,n)=>if n=0 then none else some (x.offset,ag,n)
   | none=>none
  | none=>none
 | none=>none
def mM (P:Program) (t:TypeId):Option (List Value):=match P.info? t with
 | some i=>(match i.zero with | some z=>some z.cells.toList | _=>.none)
 | _=>.none
def aCx (P:Program) (t:TypeId):Option IntKind:=match P.underlying t with | some (.int k)=>some k | _=>none
def jZ (P:Program) (t:TypeId):Nat :=
 match P.underlying t with
 | some d=>(match d with | .int _=>1 | .string=>2 | .slice _=>3 | .bool=>4 | .pointer _=>5 | .struct _=>6 | .array _ _=>7 | _=>8)
 | _=>0
theorem vR {P:Program}{t e:TypeId}{n b:Nat} (h:lV P t=some (e,n,b)) :
  P.underlying t=some (.slice e)∧∃ i z,P.info? e=some i∧i.zero=some z∧z.cells.size=i.size∧0<i.size∧i.size=n∧i.bytes=b:=by
 unfold lV at h
 cases hu:P.underlying t with
 | none=>simp [hu] at h
 | some d =>
  cases d <;> simp only [hu] at h <;> try (cases h;done)
  rename_i e'
  cases hi:P.info? e' with
  | none=>simp [hi] at h
  | some i =>
   simp only [hi] at h
   cases hz:i.zero with
   | none=>simp [hz] at h
   | some z =>
    simp only [hz] at h
    split at h
    ·
     rename_i hc
     simp only [dB,mT] at h
     obtain ⟨rfl,h2,h3⟩:=h
     exact ⟨rfl,i,z,hi,hz,hc.1,hc.2,h2,h3⟩
    ·
     cases h
theorem nF {P:Program}{t:TypeId}{ag:Bool}{n:Nat} (h:kX P t=some (ag,n)) (w:World):(isAgg t).run P w=.ok ag w∧(sizeOf t).run P w=.ok n w:=by
 unfold kX at h
 cases hu:P.underlying t with
 | none=>simp [hu] at h
 | some d =>
  cases hi:P.info? t with
  | none=>cases d <;> simp [hu,hi] at h
  | some i =>
   have h1:(sizeOf t).run P w=.ok i.size w:=by simp [sizeOf,typeInfo,hi]
   cases d <;> simp only [hu,hi,dB,mT] at h <;> obtain ⟨rfl,rfl⟩:=h <;> exact ⟨by simp [isAgg,run_underlying hu],h1⟩
def AV.flat:AV→Bool
 | .c _ | .nil | .own .. | .box .. | .fn .. | .nilptr | .ptrs _ | .view .. | .mrow .. | .mptr ..=>true
 | _=>false
def AV.cells:AV→List AV
 | .agg cs=>cs
 | a=>[a]
def AV.solid:AV→Bool
 | .agg cs=>cs.all AV.flat
 | a=>a.flat
def AV.ofFlat:Value→AV
 | .bool b=>.c (.bool b)
 | .int k n=>.c (.int k n)
 | .string s=>.c (.str s.data.toList)
 | .slice none 0 0=>.nil
 | .pointer none=>.nilptr
 | _=>.any
def AV.ofValue:Value→AV
 | .agg cs=>.agg (cs.toList.map AV.ofFlat)
 | v=>AV.ofFlat v
def AV.pv?:AV→Option PV
 | .c p=>some p
 | .own _ sz xs=>some (.list sz xs)
 | _=>none
def AV.pvs?:List AV→Option (List PV)
 | []=>some []
 | a :: as=>match a.pv? with
  | some p=>match AV.pvs? as with
   | some ps=>some (p :: ps)
   | none=>none
  | none=>none
theorem nA.ofFlat (g:G) (w:World) (v:Value):nA g w v (AV.ofFlat v):=by
 unfold AV.ofFlat
 split
 ·
  exact .c (.bool _)
 ·
  exact .c (.int _ _)
 ·
  rename_i s
  have h:(Value.string s)=.string ⟨s.data.toList.toArray⟩:=by simp
  rw [h]
  exact .c (.str _)
 ·
  exact .nil
 ·
  exact .nilptr
 ·
  exact .any
theorem nA.ofValue (g:G) (w:World) (v:Value):nA g w v (AV.ofValue v):=by
 unfold AV.ofValue
 split
 ·
  rename_i cs
  refine .agg cs _ (by simp) (fun i v a hv ha=>?_)
  simp only [bY,dS,hv,eO,dB] at ha
  subst ha
  exact nA.ofFlat g w v
 ·
  exact nA.ofFlat g w _
theorem nA.one {g:G}{w:World}{v:Value}{a:AV} (h:nA g w v a) (hf:a.flat=true):v.oneCell'=true:=by
 cases h with
 | c h=>exact h.one
 | own t sz xs h =>
  obtain ⟨_,_,e,cells,ho,_⟩:=h
  rcases ho.2 with ⟨rfl,_⟩ | ⟨_,_,_,rfl,_⟩ <;> rfl
 | mrow t sz xs h =>
  obtain ⟨_,_,e,cells,ho,_⟩:=h
  rcases ho.2 with ⟨rfl,_⟩ | ⟨_,_,_,rfl,_⟩ <;> rfl
 | mptr t sz i off row h =>
  obtain ⟨b,cur,e,rfl,_⟩:=h
  rfl
 | agg=>simp [AV.flat] at hf
 | tup=>simp [AV.flat] at hf
 | any=>simp [AV.flat] at hf
 | _=>rfl
theorem aKJ {v:Value} (h:v.oneCell'=true):v.cells=#[v]:=by
 cases v <;> simp_all [Value.oneCell',Value.cells]
theorem nA.cells {g:G}{w:World}{v:Value}{a:AV} (h:nA g w v a) (hs:a.solid=true):gB g w v.cells a.cells∧∀ x∈v.cells.toList,x.oneCell'=true:=by
 by_cases hf:a.flat=true
 ·
  have h1:=h.one hf
  rw [aKJ h1]
  have hc:a.cells=[a]:=by cases a <;> first | rfl | simp [AV.flat] at hf
  rw [hc]
  refine ⟨⟨rfl,fun i x y hx hy=>?_⟩,by simpa using h1⟩
  cases i with
  | zero=>simp at hx hy;subst hx;subst hy;exact h
  | succ i=>simp at hx
 ·
  cases h with
  | agg vs cs h ha =>
   simp only [AV.solid] at hs
   refine ⟨⟨h,ha⟩,fun x hx=>?_⟩
   simp only [Value.cells] at hx
   obtain ⟨i,hi,rfl⟩:=List.getElem_of_mem hx
   have hi':i<vs.size:=by simpa using hi
   exact (ha i _ cs[i] (by simp) (by simp)).one (cI.1 hs _ (bN _))
  | _=>simp_all [AV.solid,AV.flat]
theorem nA.pv {g:G}{w:World}{v:Value}{a:AV}{p:PV} (h:nA g w v a) (hp:a.pv?=some p):RV g.I w v p:=by
 cases h with
 | c h=>simp [AV.pv?] at hp;exact hp ▸ h
 | own t sz xs h=>simp [AV.pv?] at hp;exact hp ▸ h.rv
 | _=>simp [AV.pv?] at hp
theorem aJS:∀ {l:List AV}{ps:List PV},AV.pvs? l=some ps→ps.length=l.length
 | [],ps,h=>by simp [AV.pvs?] at h;subst h;rfl
 | a :: as,ps,h=>by
  simp only [AV.pvs?] at h
  split at h
  ·
   split at h
   ·
    rename_i q hq
    simp only [dB] at h
    subst h
    simp [aJS hq]
   ·
    cases h
  ·
   cases h
theorem aPT:∀ {l:List AV}{ps:List PV},AV.pvs? l=some ps→∀ (i:Nat) (p:PV),ps[i]?=some p→∃ a,l[i]?=some a∧a.pv?=some p
 | [],ps,h,i,p,hp=>by simp [AV.pvs?] at h;subst h;simp at hp
 | a :: as,ps,h,i,p,hp=>by
  simp only [AV.pvs?] at h
  split at h
  ·
   rename_i q hq
   split at h
   ·
    rename_i qs hqs
    simp only [dB] at h
    subst h
    cases i with
    | zero=>simp at hp;subst hp;exact ⟨a,rfl,hq⟩
    | succ i=>simp at hp;exact aPT hqs i p hp
   ·
    cases h
  ·
   cases h
def Fr.ev (fr:Fr):Operand→AV
 | .tmp t=>fr.get t
 | .const v=>AV.ofValue v
 | .func f=>.fn f []
 | .global _=>.any
theorem fK {g:G}{w:World}{a:Act}{fr:Fr} (h:yV g w a.tmps fr) (x:Operand):nA g w (a.eval x) (fr.ev x):=by
 cases x with
 | tmp t=>exact h t
 | const v=>exact nA.ofValue g w v
 | func f=>exact .fn f #[] [] rfl (fun i v a hv=>by simp at hv)
 | global n=>exact .any
def lR (op:BinOp) (k:IntKind) (x y:Int):Int :=
 let a:=BitVec.ofInt k.bits x
 let b:=BitVec.ofInt k.bits y
 match op with
 | .and=>k.wrap ((a &&& b).toNat:Int)
 | .or=>k.wrap ((a ||| b).toNat:Int)
 | .xor=>k.wrap ((a ^^^ b).toNat:Int)
 | _=>k.wrap ((a &&& ~~~b).toNat:Int)
def zC (P:Program) (op:BinOp) (t:TypeId) (x y:AV) (K:AV→Prop):Prop :=
 match x,y with
 | .c (.int k a),.c (.int k' b) =>
  match op with
  | .shl=>0≤b∧K (.c (.int k (k.wrap (a*2 ^ (min b.toNat k.bits)))))
  | .shr=>0≤b∧K (.c (.int k (a.fdiv (2 ^ (min b.toNat k.bits)))))
  | .add=>k=k'∧K (.c (.int k (k.wrap (a+b))))
  | .sub=>k=k'∧K (.c (.int k (k.wrap (a - b))))
  | .mul=>k=k'∧K (.c (.int k (k.wrap (a*b))))
  | .quo=>k=k'∧b≠0∧K (.c (.int k (k.wrap (a.tdiv b))))
  | .rem=>k=k'∧b≠0∧K (.c (.int k (a.tmod b)))
  | .eql=>k=k'∧K (.c (.bool (decide (a=b))))
  | .neq=>k=k'∧K (.c (.bool (!decide (a=b))))
  | .lss=>k=k'∧K (.c (.bool (decide (a<b))))
  | .leq=>k=k'∧K (.c (.bool (decide (a≤b))))
  | .gtr=>k=k'∧K (.c (.bool (decide (b<a))))
  | .geq=>k=k'∧K (.c (.bool (decide (b≤a))))
  | .and=>k=k'∧K (.c (.int k (lR .and k a b)))
  | .or=>k=k'∧K (.c (.int k (lR .or k a b)))
  | .xor=>k=k'∧K (.c (.int k (lR .xor k a b)))
  | .andNot=>k=k'∧K (.c (.int k (lR .andNot k a b)))
 | .c (.str a),.c (.str b) =>
  match op with
  | .add=>a.length+b.length≤9223372036854775807∧K (.c (.str (a++b)))
  | .eql=>K (.c (.bool (decide (a=b))))
  | .neq=>K (.c (.bool (!decide (a=b))))
  | .lss=>K (.c (.bool (Op.bytesLess a b)))
  | .leq=>K (.c (.bool (Op.bytesLess a b||decide (a=b))))
  | .gtr=>K (.c (.bool (!(Op.bytesLess a b||decide (a=b)))))
  | .geq=>K (.c (.bool (!Op.bytesLess a b)))
  | _=>False
 | .c (.bool a),.c (.bool b) =>
  match op with
  | .eql=>jZ P t=4∧K (.c (.bool (a==b)))
  | .neq=>jZ P t=4∧K (.c (.bool (!(a==b))))
  | _=>False
 | .box _ _,.nilptr =>
  match op with
  | .eql=>jZ P t=5∧K (.c (.bool false))
  | .neq=>jZ P t=5∧K (.c (.bool true))
  | _=>False
 | .nilptr,.nilptr =>
  match op with
  | .eql=>jZ P t=5∧K (.c (.bool true))
  | .neq=>jZ P t=5∧K (.c (.bool false))
  | _=>False
 | _,_=>False
theorem aUp {P:Program}{t:TypeId} (h:jZ P t=4):P.underlying t=some .bool:=by
 unfold jZ at h
 cases hu:P.underlying t with
 | none=>simp [hu] at h
 | some d=>cases d <;> simp_all
theorem aQc {P:Program}{t:TypeId} (h:jZ P t=5):∃ e,P.underlying t=some (.pointer e):=by
 unfold jZ at h
 cases hu:P.underlying t with
 | none=>simp [hu] at h
 | some d=>cases d <;> simp_all
theorem aJu {P:Program}{t:TypeId} (h:P.underlying t=some .bool) (a b:Bool) (w:World):(Op.equal t (.bool a) (.bool b)).run P w=.ok (a==b) w:=by
 have H:∀ d,(Op.equalIn (d+1) t (.bool a) (.bool b)).run P w=.ok (a==b) w:=fun d=>by simp [Op.equalIn,run_underlying h]
 exact H 9999
theorem aFw {P:Program}{t e:TypeId} (h:P.underlying t=some (.pointer e)) (a:Addr) (w:World):(Op.equal t (.pointer (some a)) (.pointer none)).run P w=.ok false w:=by
 have H:∀ d,(Op.equalIn (d+1) t (.pointer (some a)) (.pointer none)).run P w=.ok false w:=fun d=>by simp [Op.equalIn,run_underlying h]
 exact H 9999
theorem aFv {P:Program}{t e:TypeId} (h:P.underlying t=some (.pointer e)) (w:World):(Op.equal t (.pointer none) (.pointer none)).run P w=.ok true w:=by
 have H:∀ d,(Op.equalIn (d+1) t (.pointer none) (.pointer none)).run P w=.ok true w:=fun d=>by simp [Op.equalIn,run_underlying h]
 exact H 9999
theorem aFW (s:List UInt8):(⟨s.toArray⟩:ByteArray).toList=s:=by
 simp
theorem aDn (s:List UInt8):(⟨s.toArray⟩:ByteArray).size=s.length:=by simp [ByteArray.size]
theorem aPn (a b:List UInt8):(⟨a.toArray⟩++⟨b.toArray⟩:ByteArray)=⟨(a++b).toArray⟩:=by
 apply ByteArray.ext
 simp [ByteArray.data_append]
theorem aOl {P:Program}{op:BinOp}{t:TypeId}{x y:AV}{K:AV→Prop} (h:zC P op t x y K) {g:G}{w:World}{vx vy:Value} (hx:nA g w vx x) (hy:nA g w vy y) (ox oy:Operand) :
  ∃ v a,(do eqGuard op t ox oy vx vy;binOp op t vx vy:Sem Value).run P w=.ok v w∧nA g w v a∧K a:=by
 unfold zC at h
 split at h
 ·
  rename_i k a k' b
  obtain ⟨⟩:=hx
  obtain ⟨⟩:=hy
  rename_i hx hy
  obtain ⟨⟩:=hx
  obtain ⟨⟩:=hy
  have hg:(eqGuard op t ox oy (.int k a) (.int k' b)).run P w=.ok () w:=by cases op <;> simp [eqGuard]
  simp only [Sem.run_bind,hg,Result.andThen_ok]
  cases op
  case shl =>
   obtain ⟨h1,h2⟩:=h
   exact ⟨_,_,by simp [binOp,Op.shift,show ¬b<0 by omega],.c (.int _ _),h2⟩
  case shr =>
   obtain ⟨h1,h2⟩:=h
   exact ⟨_,_,by simp [binOp,Op.shift,show ¬b<0 by omega],.c (.int _ _),h2⟩
  case quo =>
   obtain ⟨rfl,h1,h2⟩:=h
   exact ⟨_,_,by simp [binOp,Op.intDiv,h1],.c (.int _ _),h2⟩
  case rem =>
   obtain ⟨rfl,h1,h2⟩:=h
   exact ⟨_,_,by simp [binOp,Op.intDiv,h1],.c (.int _ _),h2⟩
  case add=>obtain ⟨rfl,h2⟩:=h;exact ⟨_,_,by simp [binOp,Op.intArith],.c (.int _ _),h2⟩
  case sub=>obtain ⟨rfl,h2⟩:=h;exact ⟨_,_,by simp [binOp,Op.intArith],.c (.int _ _),h2⟩
  case mul=>obtain ⟨rfl,h2⟩:=h;exact ⟨_,_,by simp [binOp,Op.intArith],.c (.int _ _),h2⟩
  case and=>obtain ⟨rfl,h2⟩:=h;exact ⟨_,_,by simp [binOp,Op.intBits,lR],.c (.int _ _),h2⟩
  case or=>obtain ⟨rfl,h2⟩:=h;exact ⟨_,_,by simp [binOp,Op.intBits,lR],.c (.int _ _),h2⟩
  case xor=>obtain ⟨rfl,h2⟩:=h;exact ⟨_,_,by simp [binOp,Op.intBits,lR],.c (.int _ _),h2⟩
  case andNot=>obtain ⟨rfl,h2⟩:=h;exact ⟨_,_,by simp [binOp,Op.intBits,lR],.c (.int _ _),h2⟩
  case eql=>obtain ⟨rfl,h2⟩:=h;exact ⟨_,_,by simp [binOp,Op.intCmp];rfl,.c (.bool _),h2⟩
  case neq=>obtain ⟨rfl,h2⟩:=h;exact ⟨_,_,by simp [binOp,Op.intCmp];rfl,.c (.bool _),h2⟩
  case lss=>obtain ⟨rfl,h2⟩:=h;exact ⟨_,_,by simp [binOp,Op.intCmp],.c (.bool _),h2⟩
  case leq=>obtain ⟨rfl,h2⟩:=h;exact ⟨_,_,by simp [binOp,Op.intCmp],.c (.bool _),h2⟩
  case gtr=>obtain ⟨rfl,h2⟩:=h;exact ⟨_,_,by simp [binOp,Op.intCmp],.c (.bool _),h2⟩
  case geq=>obtain ⟨rfl,h2⟩:=h;exact ⟨_,_,by simp [binOp,Op.intCmp],.c (.bool _),h2⟩
 ·
  rename_i a b
  obtain ⟨⟩:=hx
  obtain ⟨⟩:=hy
  rename_i hx hy
  obtain ⟨⟩:=hx
  obtain ⟨⟩:=hy
  have hg:(eqGuard op t ox oy (.string ⟨a.toArray⟩) (.string ⟨b.toArray⟩)).run P w=.ok () w:=by cases op <;> simp [eqGuard]
  simp only [Sem.run_bind,hg,Result.andThen_ok]
  have he:(a==b)=decide (a=b):=by rw [eF];simp
  cases op <;> simp only at h
  case add =>
   obtain ⟨h1,h2⟩:=h
   refine ⟨_,_,?_,.c (.str _),h2⟩
   have h3:¬(9223372036854775807<(a.length:Int)+(b.length:Int)):=by omega
   simp [binOp,Op.stringOp,aDn,h3,aPn,show IntKind.i64.max=9223372036854775807 from rfl]
  all_goals exact ⟨_,_,by simp only [binOp,Op.stringOp,aFW,he,Sem.run_pure],.c (.bool _),h⟩
 ·
  rename_i a b
  obtain ⟨⟩:=hx
  obtain ⟨⟩:=hy
  rename_i hx hy
  obtain ⟨⟩:=hx
  obtain ⟨⟩:=hy
  cases op <;> simp only at h
  case eql =>
   obtain ⟨h1,h2⟩:=h
   exact ⟨_,_,by simp [eqGuard,binOp,aJu (aUp h1)],.c (.bool _),h2⟩
  case neq =>
   obtain ⟨h1,h2⟩:=h
   exact ⟨_,_,by simp [eqGuard,binOp,aJu (aUp h1)],.c (.bool _),h2⟩
 ·
  obtain ⟨⟩:=hx
  obtain ⟨⟩:=hy
  cases op <;> simp only at h
  case eql =>
   obtain ⟨h1,h2⟩:=h
   obtain ⟨e,he⟩:=aQc h1
   exact ⟨_,_,by simp [eqGuard,binOp,aFw he],.c (.bool _),h2⟩
  case neq =>
   obtain ⟨h1,h2⟩:=h
   obtain ⟨e,he⟩:=aQc h1
   exact ⟨_,_,by simp [eqGuard,binOp,aFw he],.c (.bool _),h2⟩
 ·
  obtain ⟨⟩:=hx
  obtain ⟨⟩:=hy
  cases op <;> simp only at h
  case eql =>
   obtain ⟨h1,h2⟩:=h
   obtain ⟨e,he⟩:=aQc h1
   exact ⟨_,_,by simp [eqGuard,binOp,aFv he],.c (.bool _),h2⟩
  case neq =>
   obtain ⟨h1,h2⟩:=h
   obtain ⟨e,he⟩:=aQc h1
   exact ⟨_,_,by simp [eqGuard,binOp,aFv he],.c (.bool _),h2⟩
 ·
  exact h.elim
def G.era (g:G):Option (Nat→Bool)→G
 | none=>g
 | some f=>g.dem f
def rU (P:Program) (c:Ctx) (o:Oper) (ev:Operand→Value) (w:World) (g:G) (K:Option (Nat→Bool)→AV→St→Prop):Prop :=
 ∃ nx v w' dm av σ' g',(execOp ev o).run P w=.ok nx w'∧(nx=.value v∨(nx=.skip∧v=undef))∧K dm av σ'∧tT c g' w' σ'∧Stp (g.era dm) w g' w'∧nA g' w' v av
theorem rU.same {P:Program}{c:Ctx}{o:Oper}{ev:Operand→Value}{w:World}{g:G}{σ:St}{K:Option (Nat→Bool)→AV→St→Prop}{v:Value}{av:AV}
  (hi:tT c g w σ) (hr:(execOp ev o).run P w=.ok (.value v) w) (hv:nA g w v av) (hk:K none av σ):rU P c o ev w g K :=
 ⟨.value v,v,w,none,av,σ,g,hr,.inl rfl,hk,hi,Stp.refl g w,hv⟩
theorem tE (b o n:Nat):(⟨b,o,none⟩:Addr).add n=⟨b,o+n,none⟩:=by unfold Addr.add;split <;> simp_all
theorem aDe {w:World}{b:Nat}{cur:Array Value}{e:TypeId}{fr:Nat × Nat} (h:w.heap[b]?=some (.cells cur e fr)) (j:Nat):w.cell? ⟨b,j,none⟩=cur[j]?:=by
 simp [World.cell?,h]
theorem aCJ {P:Program}{w:World}{t:TypeId}{n:Nat}{a:Addr}{v:Value} (ht:kX P t=some (false,n)) (hc:w.cell? a=some v):(loadVar t a).run P w=.ok v w:=by
 simp [loadVar,(nF ht w).1,hc]
theorem aEs {P:Program}{w:World}{t:TypeId}{n:Nat}{a:Addr} (vs:List Value) (ht:kX P t=some (true,n)) (hl:vs.length=n) (hc:∀ j v,vs[j]?=some v→w.cell? (a.add j)=some v) :
  (loadVar t a).run P w=.ok (.agg vs.toArray) w:=by
 subst hl
 simp [loadVar,(nF ht w).1,(nF ht w).2,run_loadCells_list w a vs hc]
theorem tT.box {c:Ctx}{g:G}{w:World}{σ:St} (hi:tT c g w σ) {id b:Nat}{cs:List AV} (hs:σ[id]?=some cs) (hb:g.β[id]?=some b):aUs g w b cs:=hi.store id cs b hs hb
theorem tT.alloc {c:Ctx}{g:G}{w:World}{σ:St} (hi:tT c g w σ) (cur:Array Value) (e:TypeId) (cs:List AV) (hc:gB g w cur cs) :
  ∃ g',tT c g' (w.alloc (.cells cur e)) (σ++[cs])∧Stp g w g' (w.alloc (.cells cur e))∧g'.β[σ.length]?=some w.heap.size:=by
 have hcell:∀ b o,b<w.heap.size→(w.alloc (.cells cur e)).cell? ⟨b,o,none⟩=w.cell? ⟨b,o,none⟩:=fun b o h=>World.cell?_alloc_lt w _ _ h
 have hheap:∀ b,b<w.heap.size→(w.alloc (.cells cur e)).heap[b]?=w.heap[b]?:=fun b h=>Go.RowKit.Below.heap_alloc w _ b h
 let g':G:={ g with β:=g.β++[w.heap.size] }
 have st:Stp g w g' (w.alloc (.cells cur e)):=by
  refine ⟨fun _ _ h=>h,fun b o h=>hcell b o (hi.Ilt b o h),fun id b h=>?_,fun t b h=>⟨h,hheap b (hi.τnew t b h).2.1,fun _ h=>h⟩⟩
  show (g.β++[w.heap.size])[id]?=some b
  rw [cQ (bR.1 h).1]
  exact h
 have hlen:c.β0.length≤g.β.length:=by
  have:=qB List.length hi.βpre
  simp at this
  omega
 refine ⟨g',?_,st,?_⟩
 ·
  refine ⟨hi.os,hi.tape,hi.output,by have:=hi.size;simp;omega,fun b hb hn ho=>(hheap b (by have:=hi.size;omega)).trans (hi.old b hb hn ho),hi.Ile,hi.Iold,fun b o h=>by have:=hi.Ilt b o h;simp;omega,?_,?_,?_,?_,?_,?_,?_,hi.τinj,?_,fun b o h=>(st.cell b o (hi.Ile b o h)).trans (hi.cell0 b o h),hi.glo⟩
  ·
   show (g.β++[w.heap.size]).take c.β0.length=c.β0
   rw [mA hlen]
   exact hi.βpre
  ·
   intro b hb
   change b∈(g.β++[w.heap.size]).drop c.β0.length at hb
   rw [kO hlen] at hb
   rcases gV.1 hb with hb | hb
   ·
    exact hi.βnew b hb
   ·
    simp at hb
    have:=hi.size
    omega
  ·
   show (g.β++[w.heap.size]).Nodup
   refine List.nodup_append.2 ⟨hi.βnd,by simp,fun x hx y hy=>?_⟩
   simp at hy
   have:=hi.βlt x hx
   omega
  ·
   show (g.β++[w.heap.size]).length=_
   simp [hi.βlen]
  ·
   intro b hb o h
   rcases gV.1 (show b∈g.β++[w.heap.size] from hb) with hb | hb
   ·
    exact hi.βI b hb o h
   ·
    simp at hb
    have:=hi.Ilt b o h
    omega
  ·
   intro b hb
   rcases gV.1 (show b∈g.β++[w.heap.size] from hb) with hb | hb
   ·
    have:=hi.βlt b hb
    simp
    omega
   ·
    simp at hb
    simp
    omega
  ·
   intro t b ht
   obtain ⟨h1,h2,h3⟩:=hi.τnew t b ht
   refine ⟨h1,by simp;omega,fun hb=>?_⟩
   rcases gV.1 (show b∈g.β++[w.heap.size] from hb) with hb | hb
   ·
    exact h3 hb
   ·
    simp at hb
    omega
  ·
   intro id cs' b hs hb
   change (g.β++[w.heap.size])[id]?=some b at hb
   by_cases hid:id<σ.length
   ·
    rw [cQ hid] at hs
    rw [cQ (by rw [hi.βlen];exact hid)] at hb
    obtain ⟨cur',e',hh,hr⟩:=hi.store id cs' b hs hb
    exact ⟨cur',e',(hheap b (hi.βlt b (dA hb))).trans hh,hr.stp st⟩
   ·
    have h1:=(bR.1 hs).1
    simp at h1
    obtain rfl:id=σ.length:=by omega
    rw [dL (eP _)] at hs
    rw [dL (by rw [hi.βlen];exact eP _)] at hb
    simp [hi.βlen] at hs hb
    subst hs
    subst hb
    exact ⟨cur,e,heap_alloc_new w _,hc.stp st⟩
 ·
  show (g.β++[w.heap.size])[σ.length]?=some w.heap.size
  rw [← hi.βlen]
  simp
theorem List.getElem?_set_some {α:Type}{l:List α}{i j:Nat}{x y:α} (h:(l.set i x)[j]?=some y):(i=j∧x=y)∨(i≠j∧l[j]?=some y):=by
 rw [List.getElem?_set] at h
 by_cases hij:i=j
 ·
  subst hij
  simp at h
  exact .inl ⟨rfl,h.2⟩
 ·
  simp [hij] at h
  exact .inr ⟨hij,h⟩
theorem tT.setRow {c:Ctx}{g:G}{w:World}{σ:St} (hi:tT c g w σ) {id b:Nat}{cs cs':List AV}{cur cur':Array Value}{e:TypeId} (hs:σ[id]?=some cs) (hb:g.β[id]?=some b)
  (hh:w.heap[b]?=some (.cells cur e (0,0))) (hc:gB g w cur' cs'):tT c g (w.setRow b cur') (σ.set id cs')∧Stp g w g (w.setRow b cur'):=by
 have hmem:b∈g.β:=dA hb
 have hheap:∀ k,k≠b→(w.setRow b cur').heap[k]?=w.heap[k]?:=fun k hk=>setRow_other w b k _ hk
 have hsize:(w.setRow b cur').heap.size=w.heap.size:=by simp [World.setRow]
 have st:Stp g w g (w.setRow b cur'):=by
  refine ⟨fun _ _ h=>h,fun k o h=>?_,fun _ _ h=>h,fun t k h=>⟨h,hheap k (fun e=>(hi.τnew t k h).2.2 (e ▸ hmem)),fun _ h=>h⟩⟩
  have hk:k≠b:=fun e=>hi.βI b hmem o (e ▸ h)
  simp [World.cell?,hheap k hk]
 refine ⟨⟨hi.os,hi.tape,hi.output,by rw [hsize];exact hi.size,fun k hk hn ho=>?_,hi.Ile,hi.Iold,fun k o h=>by rw [hsize];exact hi.Ilt k o h,hi.βpre,hi.βnew,hi.βnd,by simp [hi.βlen],hi.βI,fun k hk=>by rw [hsize];exact hi.βlt k hk,
  fun t k h=>by rw [hsize];exact hi.τnew t k h,hi.τinj,fun id' cs2 b' hs' hb'=>?_,fun b o h=>(st.cell b o (hi.Ile b o h)).trans (hi.cell0 b o h),hi.glo⟩,st⟩
 ·
  by_cases hkb:k=b
  ·
   subst hkb
   exfalso
   have hpre:=hi.βpre
   by_cases hid:id<c.β0.length
   ·
    apply hn
    rw [← hpre]
    have:(g.β.take c.β0.length)[id]?=some k:=by rw [eX hid];exact hb
    exact dA this
   ·
    have:(g.β.drop c.β0.length)[id - c.β0.length]?=some k:=by rw [hO];rw [show c.β0.length+(id - c.β0.length)=id by omega];exact hb
    have:=hi.βnew k (dA this)
    omega
  ·
   exact (hheap k hkb).trans (hi.old k hk hn ho)
 ·
  rcases List.getElem?_set_some hs' with ⟨rfl,rfl⟩ | ⟨hne,hs'⟩
  ·
   obtain rfl:b=b':=by rw [hb] at hb';exact iD hb'
   exact ⟨cur',e,setRow_heap w b cur cur' e _ hh,hc.stp st⟩
  ·
   obtain ⟨cur2,e2,hh2,hr2⟩:=hi.store id' cs2 b' hs' hb'
   have hbb:b'≠b:=by
    rintro rfl
    have h1:=bR.1 hb
    have h2:=bR.1 hb'
    exact hne ((List.getElem_inj hi.βnd).1 (h1.2.trans h2.2.symm))
   exact ⟨cur2,e2,(hheap b' hbb).trans hh2,hr2.stp st⟩
theorem gB.splice {g:G}{w:World}{cur vs:Array Value}{cs as:List AV} (hc:gB g w cur cs) (hv:gB g w vs as) (off:Nat) (hfit:off+as.length≤cs.length) :
  gB g w (cur.toList.take off++vs.toList++cur.toList.drop (off+vs.size)).toArray (cs.take off++as++cs.drop (off+as.length)):=by
 have h1:cur.size=cs.length:=hc.1
 have h2:vs.size=as.length:=hv.1
 refine ⟨by simp;omega,fun i v a hi ha=>?_⟩
 simp only [pP,dJ] at hi ha
 by_cases hlt:i<off
 ·
  rw [cQ (by simp;omega),eX hlt] at hi
  rw [cQ (by simp;omega),eX hlt] at ha
  exact hc.2 i v a (by simpa using hi) ha
 ·
  rw [dL (by simp;omega)] at hi ha
  simp only [nC,iS,show min off cur.size=off by omega,show min off cs.length=off by omega] at hi ha
  by_cases hlt2:i - off<as.length
  ·
   rw [cQ (by simp;omega)] at hi
   rw [cQ hlt2] at ha
   exact hv.2 _ v a (by simpa using hi) ha
  ·
   rw [dL (by simp;omega),hO] at hi
   rw [dL (by omega),hO] at ha
   simp only [iS] at hi
   rw [show off+vs.size+(i - off - vs.size)=i by omega] at hi
   rw [show off+as.length+(i - off - as.length)=i by omega] at ha
   exact hc.2 i v a (by simpa using hi) ha
theorem gB.sub {g:G}{w:World}{cur:Array Value}{cs:List AV} (hc:gB g w cur cs) (off n:Nat):gB g w (cur.extract off (off+n)) ((cs.drop off).take n):=by
 have h1:cur.size=cs.length:=hc.1
 refine ⟨by simp;omega,fun i v a hi ha=>?_⟩
 rw [lZ] at ha
 split at ha
 ·
  rw [hO] at ha
  rw [lL] at hi
  split at hi
  ·
   exact hc.2 _ v a hi ha
  ·
   cases hi
 ·
  cases ha
structure Src (P:Program) (w:World) (size:Nat) (x:Value) (m:Nat) (news:List Value):Prop where
 len:∀ W,(Builtin.lenOf x).run P W=.ok m W
 first:(Builtin.firstCells size m x).run P w=.ok news.toArray w
 drew:(Builtin.firstCells size m x).run P w.drew=.ok news.toArray w.drew
 length:news.length=m*size
 one:∀ u∈news,u.oneCell'=true
theorem aEL {P:Program} (w:World) (t tx ty e e0:TypeId) (d:TypeDesc) (i:TypeInfo) (z:Value) (size bytes:Nat) (ht:P.underlying t=some (.slice e)) (htx:P.underlying tx=some d) (hd:d=.string∨∃ e1,d=.slice e1)
  (hi:P.info? e=some i) (hz:i.zero=some z) (hsize:i.size=size) (hby:i.bytes=bytes) (hzs:z.cells.size=size)
  (v x:Value) (n m:Nat) (xs news:List Value) (hown:w.ownsRow 0 e0 size v n xs) (hs:Src P w size x m news) (hbytes:(n+m)*bytes≤140737488355328) (h63:n+m≤9223372036854775807) :
  ∃ v' w' e',(Builtin.append_ #[t,tx] ty #[v,x]).run P w=.ok v' w'∧w'.ownsRow 0 e' size v' (n+m) (xs++news)∧w'.os=w.os∧w'.tape=w.tape∧w'.output=w.output ∧
   ((v'.ownBlock=v.ownBlock∧w'.heap.size=w.heap.size∧∀ k,some k≠v.ownBlock→w'.heap[k]?=w.heap[k]?) ∨
    (v'.ownBlock=some w.heap.size∧w'.heap.size=w.heap.size+1∧∀ k,k<w.heap.size→w'.heap[k]?=w.heap[k]?)):=by
 subst hsize
 subst hby
 have hlen:(xs++news).length=(n+m)*i.size:=by rw [aF,hown.1,hs.length,fO]
 have grown:∀ (old:Nat) (hold:old<n+m) (v0:Value),(∀ W,(Builtin.firstCells i.size n v0).run P W=.ok xs.toArray W∨True) →
   (w.drew.alloc (.cells (xs.toArray++news.toArray++Builtin.zeroCells z.cells (grownCap w (n+m) old e - (n+m))) e)).ownsRow 0 e i.size
     (.slice (some ⟨w.heap.size,0,none⟩) (n+m) (grownCap w (n+m) old e)) (n+m) (xs++news):=by
  intro old hold v0 _
  have hge:=grownCap_ge w (n+m) old e
  have hcm:grownCap w (n+m) old e≤maxLen:=grownCap_le_maxLen w (n+m) old e (by unfold maxLen;omega)
  refine ⟨hlen,.inr ⟨w.heap.size,_,_,rfl,Nat.zero_le _,heap_alloc_new w.drew _,hge,hcm,?_,?_⟩⟩
  ·
   simp only [Array.size_append,List.size_toArray,size_zeroCells,hzs,hown.1,hs.length,← fO]
   congr 1
   omega
  ·
   simp only [Array.toList_append,dJ]
   rw [← dJ,← hlen]
   exact List.take_left
 have hnew:∀ (o:Obj) k,k<w.heap.size→(w.drew.alloc o).heap[k]?=w.heap[k]?:=fun o k hk=>Go.RowKit.Below.heap_alloc w.drew o k hk
 rcases hown.2 with ⟨rfl,rfl⟩ | ⟨g,cap,cur,rfl,hbg,hg,hnc,hcm,hcs,htake⟩
 ·
  have hx:xs=[]:=eM (by simpa using hown.1)
  subst hx
  by_cases hm:m=0
  ·
   subst hm
   have hn:news=[]:=eM (by simpa using hs.length)
   subst hn
   refine ⟨.slice none 0 0,w,e,?_,World.ownsRow_nil w 0 e i.size,rfl,rfl,rfl,.inl ⟨rfl,rfl,fun _ _=>rfl⟩⟩
   have h1:=hs.len w
   have h2:=hs.first
   rcases hd with rfl | ⟨e1,rfl⟩ <;> simp [Builtin.append_,run_underlying ht,run_underlying htx,sizeOf,typeInfo,hi,h1,h2]
  ·
   have h63':¬(9223372036854775807<(m:Int)):=by omega
   have h48':¬(281474976710656<Builtin.nextslicecap m 0*i.bytes):=by rw [nextslicecap_zero (by omega)];rw [jF] at hbytes;omega
   have hgr:=grown 0 (by omega) (.slice none 0 0) (fun _=>.inr trivial)
   have h1:=hs.len w
   have h2:=hs.drew
   simp only [jF,iC,Array.empty_append,iC] at hgr ⊢
   refine ⟨_,_,e,?_,hgr,rfl,rfl,rfl,.inr ⟨rfl,by simp,fun k hk=>hnew _ k hk⟩⟩
   rcases hd with rfl | ⟨e1,rfl⟩ <;> simp [Builtin.append_,run_underlying ht,run_underlying htx,sizeOf,typeInfo,zeroValue,hi,hz,h1,hm,h63',h48',Question.forced,run_firstCells_none,h2,newRow,grownCap]
 ·
  by_cases hroom:n+m≤cap
  ·
   have hfit:n*i.size+news.length≤cur.size:=by rw [hs.length,hcs,← fO];exact gZ _ hroom
   have h1:=hs.len w
   have h2:=hs.first
   have hst:=run_storeCells_at P g (n*i.size) e0 news 0 cur w hg (by simpa using hfit) hs.one
   simp only [tA] at hst
   refine ⟨.slice (some ⟨g,0,none⟩) (n+m) cap,w.setRow g (cur.toList.take (n*i.size)++news++cur.toList.drop (n*i.size+news.length)).toArray,e0,?_,
     ⟨hlen,.inr ⟨g,cap,_,rfl,hbg,setRow_heap w g cur _ e0 _ hg,hroom,hcm,?_,?_⟩⟩,rfl,rfl,rfl,.inl ⟨rfl,by simp [World.setRow],fun k hk=>setRow_other w g k _ (fun h=>hk (by simp [Value.ownBlock,h]))⟩⟩
   ·
     rcases hd with rfl | ⟨e1,rfl⟩ <;> simp [Builtin.append_,run_underlying ht,run_underlying htx,sizeOf,typeInfo,hi,h1,hroom,h2,Addr.add_lit,hst]
   ·
     simp only [List.size_toArray,aF,nC,lX,iS]
     omega
   ·
     rw [htake,← hlen]
     exact List.take_left
  ·
   have hn:¬(n+m≤cap):=hroom
   have h63':¬(9223372036854775807<((n:Int)+(m:Int))):=by omega
   have hfits:Builtin.nextslicecap (n+m) cap*i.bytes≤281474976710656:=growslice_fits (by omega) hbytes
   have h48':¬(281474976710656<Builtin.nextslicecap (n+m) cap*i.bytes):=by omega
   have holds:∀ j u,xs[j]?=some u→w.cell? ((⟨g,0,none⟩:Addr).add j)=some u:=hown.cells (g:=g) rfl
   have hfo:=run_firstCells_some (P:=P) w.drew i.size n ⟨g,0,none⟩ n cap xs hown.1 (by simpa using holds)
   have h1:=hs.len w
   have h2:=hs.drew
   refine ⟨_,_,e,?_,grown cap (by omega) (.slice none 0 0) (fun _=>.inr trivial),rfl,rfl,rfl,.inr ⟨rfl,by simp,fun k hk=>hnew _ k hk⟩⟩
   rcases hd with rfl | ⟨e1,rfl⟩
   all_goals
     simp [Builtin.append_,run_underlying ht,run_underlying htx,sizeOf,typeInfo,zeroValue,hi,hz,h1,hn,h63',h48',Question.forced,hfo,h2,newRow,grownCap]
     congr 2
     apply Array.ext'
     simp [dJ]
theorem Src.list {P:Program}{w:World}{I:Nat→Nat→Prop}{v:Value}{sz:Nat}{ys:List (List PV)} (h:RV I w v (.list sz ys)):∃ news,Src P w sz v ys.length news ∧
  ∀ (i j:Nat) (x:List PV) (p:PV),ys[i]?=some x→x[j]?=some p→∃ u,news[i*sz+j]?=some u∧RV I w u p:=by
 cases h with
 | empty A cap sz =>
  refine ⟨[],⟨fun W=>rfl,?_,?_,by simp,by simp⟩,by simp⟩
  ·
   cases A <;> simp [Builtin.firstCells,loadCells,loadCellsFrom]
  ·
   cases A <;> simp [Builtin.firstCells,loadCells,loadCellsFrom]
 | row b o cap sz xs vs hs hcap hc hv =>
  have hl:((List.range (ys.length*sz)).map vs).length=ys.length*sz:=by simp
  have hcell:∀ j u,((List.range (ys.length*sz)).map vs)[j]?=some u→w.cell? ((⟨b,o,none⟩:Addr).add j)=some u:=by
   intro j u hu
   rw [bY,bV] at hu
   obtain ⟨k,hk,rfl⟩:=hu
   have hlt:=(bR.1 hk).1
   have hkj:=(bR.1 hk).2
   simp at hlt hkj
   subst hkj
   rw [tE]
   exact (hc j hlt).2
  have key:∀ (i j:Nat) (x:List PV) (p:PV),ys[i]?=some x→x[j]?=some p→∃ u,((List.range (ys.length*sz)).map vs)[i*sz+j]?=some u∧RV I w u p:=by
   intro i j x p hx hp
   have hi:=(bR.1 hx).1
   have hj:=(bR.1 hp).1
   have hlx:=hs x (dA hx)
   have:i*sz+j<ys.length*sz:=by
    have:(i+1)*sz≤ys.length*sz:=gZ _ hi
    rw [fO] at this
    omega
   exact ⟨vs (i*sz+j),by simp [this],hv i j x p hx hp⟩
  refine ⟨_,⟨fun W=>rfl,run_firstCells_some w sz _ _ _ _ _ hl hcell,run_firstCells_some w.drew sz _ _ _ _ _ hl (by simpa using hcell),hl,fun u hu=>?_⟩,key⟩
  obtain ⟨k,hk,rfl⟩:=List.mem_map.1 hu
  have hk':k<ys.length*sz:=by simpa using hk
  have hsz:0<sz:=by
   rcases Nat.eq_zero_or_pos sz with h0 | h0
   ·
    subst h0
    simp at hk'
   ·
    exact h0
  have h1:k / sz<ys.length:=(pR hsz).2 hk'
  have hlx:=hs _ (bN h1)
  have h2:k % sz<(ys[k / sz]).length:=by rw [hlx];exact Nat.mod_lt _ hsz
  have:=hv (k / sz) (k % sz) _ _ (aM h1) (aM h2)
  rw [Nat.div_add_mod'] at this
  exact this.one
def hF (b:UInt8):List PV:=[.int .u8 b.toNat]
theorem Src.str {P:Program}{w:World}{I:Nat→Nat→Prop} (s:List UInt8):∃ news,Src P w 1 (.string ⟨s.toArray⟩) s.length news ∧
  ∀ (i j:Nat) (x:List PV) (p:PV),(s.map hF)[i]?=some x→x[j]?=some p→∃ u,news[i*1+j]?=some u∧RV I w u p:=by
 refine ⟨Lib.strCells ⟨s.toArray⟩,⟨fun W=>by simp [Builtin.lenOf,aDn],?_,?_,by simp [Lib.strCells],Lib.strCells_oneCell _⟩,fun i j x p hx hp=>?_⟩
 ·
  have:=Lib.run_firstCells_string (P:=P) w 1 ⟨s.toArray⟩
  rwa [aDn] at this
 ·
  have:=Lib.run_firstCells_string (P:=P) w.drew 1 ⟨s.toArray⟩
  rwa [aDn] at this
 ·
  rw [bY,bV] at hx
  obtain ⟨b,hb,rfl⟩:=hx
  cases j with
  | zero =>
   simp [hF] at hp
   subst hp
   exact ⟨_,by simp [Lib.strCells,hb],.int _ _⟩
  | succ j=>simp [hF] at hp
theorem aGr {P:Program}{c:Ctx}{g:G}{w:World}{σ:St} (hi:tT c g w σ) (f:Nat→Bool) (T:Nat) (hT:f T=true)
  {t tx ty e:TypeId}{d:TypeDesc}{sz bytes:Nat} (ht:lV P t=some (e,sz,bytes)) (htx:P.underlying tx=some d) (hd:d=.string∨∃ e1,d=.slice e1)
  {v x:Value}{xs ys:List (List PV)} (hv:(v=.slice none 0 0∧xs=[])∨∃ t0,f t0=true∧aMK g w v t0 sz xs) {news:List Value} (hs:Src P w sz x ys.length news)
  (hn:∀ (i j:Nat) (x:List PV) (p:PV),ys[i]?=some x→x[j]?=some p→∃ u,news[i*sz+j]?=some u∧RV g.I w u p) (hrows:∀ y∈ys,y.length=sz) (hb:(xs.length+ys.length)*bytes≤140737488355328) (h63:xs.length+ys.length≤9223372036854775807) :
  ∃ v' w' g',(Builtin.append_ #[t,tx] ty #[v,x]).run P w=.ok v' w'∧tT c g' w' (σ.dem f)∧Stp (g.dem f) w g' w'∧nA g' w' v' (.own T sz (xs++ys)):=by
 obtain ⟨hu,i,z,hinf,hz,hzs,hpos,hsz,hby⟩:=vR ht
 have hpos':0<sz:=hsz ▸ hpos
 obtain ⟨e0,cells,hown,hcells,hblk,hxrows,ho⟩:∃ e0 cells,w.ownsRow 0 e0 sz v xs.length cells ∧
   (∀ (i j:Nat) (x:List PV) (p:PV),xs[i]?=some x→x[j]?=some p→∃ u,cells[i*sz+j]?=some u∧RV g.I w u p) ∧
   (∀ b,v.ownBlock=some b→(∀ o,g.I b o↔o<xs.length*sz))∧(∀ y∈xs,y.length=sz)∧(∀ b,v.ownBlock=some b→∃ t0,f t0=true∧g.τ t0=some b):=by
  rcases hv with ⟨rfl,rfl⟩ | ⟨t0,hf,h0,hrow,e0,cells,hown,hc,hb⟩
  ·
   exact ⟨e,[],World.ownsRow_nil w 0 e sz,by simp,by simp [Value.ownBlock],by simp,by simp [Value.ownBlock]⟩
  ·
   exact ⟨e0,cells,hown,hc,fun b hb'=>(hb b hb').2,hrow,fun b hb'=>⟨t0,hf,(hb b hb').1⟩⟩
 obtain ⟨v',w',e',hrun,hown',hos,htape,hout,halt⟩:=aEL w t tx ty e e0 d i z sz bytes hu htx hd hinf hz hsz hby (hsz ▸ hzs) v x xs.length ys.length cells news hown hs hb h63
 have hlt:∀ b,v.ownBlock=some b→b<w.heap.size:=fun b hb=>(hown.lt b hb).2
 have hsame:∀ b o,g.I b o→w'.cell? ⟨b,o,none⟩=w.cell? ⟨b,o,none⟩:=by
  intro b o hI
  have hbl:=hi.Ilt b o hI
  rcases halt with ⟨hbo,hsz',hk⟩ | ⟨_,_,hk⟩
  ·
   by_cases hvb:v.ownBlock=some b
   ·
    have hoo:=(hblk b hvb o).1 hI
    have h1:=hown'.cells (g:=b) (hbo.trans hvb)
    have h2:=hown.cells (g:=b) hvb
    have hol:o<cells.length:=by rw [hown.1];exact hoo
    have e1:=h1 o cells[o] (by rw [cQ hol,aM hol])
    have e2:=h2 o cells[o] (aM hol)
    rw [Addr.add_lit,jF] at e1 e2
    rw [e1,e2]
   ·
    simp [World.cell?,hk b (fun h=>hvb h.symm)]
  ·
   simp [World.cell?,hk b hbl]
 have hsizele:w.heap.size≤w'.heap.size:=by rcases halt with ⟨_,h,_⟩ | ⟨_,h,_⟩ <;> omega
 have hother:∀ k,k<w.heap.size→v.ownBlock≠some k→w'.heap[k]?=w.heap[k]?:=by
  intro k hk hne
  rcases halt with ⟨_,_,h⟩ | ⟨_,_,h⟩
  ·
   exact h k (fun h=>hne h.symm)
  ·
   exact h k hk
 have hv'blk:∀ b,v'.ownBlock=some b→(v.ownBlock=some b∨b=w.heap.size)∧b<w'.heap.size:=by
  intro b hb
  refine ⟨?_,(hown'.lt b hb).2⟩
  rcases halt with ⟨h,_,_⟩ | ⟨h,_,_⟩
  ·
   exact .inl (h ▸ hb)
  ·
   right;rw [h] at hb;exact (iD hb).symm
 let I':Nat→Nat→Prop:=fun b o=>g.I b o∨(v'.ownBlock=some b∧o<(xs.length+ys.length)*sz)
 let g':G:={ I:=I',β:=g.β,τ:=fun t=>if t=T then v'.ownBlock else if f t then none else g.τ t }
 have hfresh:∀ t b,g.τ t=some b→f t=false→v.ownBlock≠some b:=by
  intro t b ht hft hvb
  obtain ⟨t0,hf0,ht0⟩:=ho b hvb
  have:=hi.τinj t t0 b ht ht0
  subst this
  rw [hft] at hf0
  cases hf0
 have st:Stp (g.dem f) w g' w':=by
  refine ⟨fun b o h=>.inl h,hsame,fun _ _ h=>h,fun t b htb=>?_⟩
  simp only [G.dem] at htb
  split at htb
  ·
   cases htb
  ·
   rename_i hft
   have hft:f t=false:=by simpa using hft
   have hne:=hfresh t b htb hft
   have hbl:=(hi.τnew t b htb).2.1
   refine ⟨?_,hother b hbl hne,fun o h=>?_⟩
   ·
    show (if t=T then v'.ownBlock else if f t then none else g.τ t)=some b
    rw [aY (by rintro rfl;rw [hT] at hft;cases hft),aY (by simp [hft])]
    exact htb
   ·
    rcases h with h | ⟨h,_⟩
    ·
     exact h
    ·
     rcases (hv'blk b h).1 with h1 | h1
     ·
      exact absurd h1 hne
     ·
      omega
 have hβne:∀ b∈g.β,v.ownBlock≠some b:=by
  intro b hb hvb
  obtain ⟨t0,_,ht0⟩:=ho b hvb
  exact (hi.τnew t0 b ht0).2.2 hb
 have hv0:∀ b,v.ownBlock=some b→c.w0.heap.size≤b∨c.O0 b:=by
  intro b hvb
  obtain ⟨t0,_,ht0⟩:=ho b hvb
  exact (hi.τnew t0 b ht0).1
 have hnewge:∀ b,v'.ownBlock=some b→c.w0.heap.size≤b∨c.O0 b:=by
  intro b hb
  rcases (hv'blk b hb).1 with h | rfl
  ·
   exact hv0 b h
  ·
   exact .inl hi.size
 have hβ':∀ b∈g.β,v'.ownBlock≠some b:=by
  intro b hb hvb
  rcases (hv'blk b hvb).1 with h | h
  ·
   exact hβne b hb h
  ·
   have:=hi.βlt b hb
   omega
 have inv:tT c g' w' (σ.dem f):=by
  refine ⟨hos.trans hi.os,htape.trans hi.tape,hout.trans hi.output,hG hi.size hsizele,fun b hb hn ho'=>?_,fun b o h=>.inl (hi.Ile b o h),fun b o h hb ho'=>?_,fun b o h=>?_,hi.βpre,hi.βnew,hi.βnd,?_,fun b hb o h=>?_,
   fun b hb=>fG (hi.βlt b hb) hsizele,fun t b htb=>?_,fun t t' b h1 h2=>?_,fun id cs b hs' hb'=>?_,fun b o h=>(st.cell b o (hi.Ile b o h)).trans (hi.cell0 b o h),hi.glo⟩
  ·
   rw [hother b (fG hb hi.size) (fun h=>by rcases hv0 b h with h1 | h1;omega;exact ho' h1)]
   exact hi.old b hb hn ho'
  ·
   rcases h with h | ⟨h,_⟩
   ·
    exact hi.Iold b o h hb ho'
   ·
    rcases hnewge b h with h1 | h1
    ·
     omega
    ·
     exact absurd h1 ho'
  ·
   rcases h with h | ⟨h,_⟩
   ·
    exact fG (hi.Ilt b o h) hsizele
   ·
    exact (hv'blk b h).2
  ·
   rw [St.dem_eq,gG]
   exact hi.βlen
  ·
   rcases h with h | ⟨h,_⟩
   ·
    exact hi.βI b hb o h
   ·
    exact hβ' b hb h
  ·
   change (if t=T then v'.ownBlock else if f t then none else g.τ t)=some b at htb
   split at htb
   ·
    exact ⟨hnewge b htb,(hv'blk b htb).2,fun hb=>hβ' b hb htb⟩
   ·
    split at htb
    ·
     cases htb
    ·
     obtain ⟨h1,h2,h3⟩:=hi.τnew t b htb
     exact ⟨h1,fG h2 hsizele,h3⟩
  ·
   change (if t=T then v'.ownBlock else if f t then none else g.τ t)=some b at h1
   change (if t'=T then v'.ownBlock else if f t' then none else g.τ t')=some b at h2
   have key:∀ s,f s=false→g.τ s=some b→v'.ownBlock≠some b:=by
    intro s hfs hs' hvb
    rcases (hv'blk b hvb).1 with h | h
    ·
     exact hfresh s b hs' hfs h
    ·
     have:=(hi.τnew s b hs').2.1
     omega
   split at h1
   ·
    rename_i e1
    split at h2
    ·
     rename_i e2
     rw [e1,e2]
    ·
     split at h2
     ·
      cases h2
     ·
      rename_i hf2
      exact absurd h1 (key t' (by simpa using hf2) h2)
   ·
    split at h1
    ·
     cases h1
    ·
     rename_i hf1
     split at h2
     ·
      exact absurd h2 (key t (by simpa using hf1) h1)
     ·
      split at h2
      ·
       cases h2
      ·
       exact hi.τinj t t' b h1 h2
  ·
   obtain ⟨cur,e1,hh,hr⟩:=(hi.dem f).store id cs b hs' hb'
   have hmem:b∈g.β:=dA hb'
   exact ⟨cur,e1,(hother b (hi.βlt b hmem) (hβne b hmem)).trans hh,hr.stp st⟩
 refine ⟨v',w',g',hrun,inv,st,.own T sz (xs++ys) ⟨hpos',?_,e',cells++news,by rw [aF];exact hown',?_,fun b hb=>⟨?_,fun o=>?_⟩⟩⟩
 ·
  intro y hy
  rcases gV.1 hy with h | h
  ·
   exact hxrows y h
  ·
   exact hrows y h
 ·
  intro i j y p hy hp
  have hcl:cells.length=xs.length*sz:=hown.1
  by_cases hil:i<xs.length
  ·
   rw [cQ hil] at hy
   obtain ⟨u,hu',hr⟩:=hcells i j y p hy hp
   have hj:=(bR.1 hp).1
   have hlx:=hxrows y (dA hy)
   refine ⟨u,?_,hr.mono (fun _ _ h=>.inl h) hsame⟩
   rw [cQ (bR.1 hu').1]
   exact hu'
  ·
   rw [dL (by omega)] at hy
   obtain ⟨u,hu',hr⟩:=hn _ j y p hy hp
   refine ⟨u,?_,hr.mono (fun _ _ h=>.inl h) hsame⟩
   have hge:xs.length*sz≤i*sz:=gZ _ (by omega)
   rw [dL (by omega),hcl,← hu']
   congr 1
   rw [Nat.sub_mul]
   omega
 ·
  show (if T=T then v'.ownBlock else _)=some b
  simp [hb]
 ·
  rw [aF]
  constructor
  ·
   rintro (h | ⟨_,h⟩)
   ·
    rcases (hv'blk b hb).1 with h1 | h1
    ·
     have:=(hblk b h1 o).1 h
     rw [fO]
     omega
    ·
     have:=hi.Ilt b o h
     omega
   ·
    exact h
  ·
   intro h
   exact .inr ⟨hb,h⟩
def sQ (dst:Option Tmp):Nat:=match dst with | some d=>16*d | _=>0
def qP (dst:Option Tmp) (t:Nat):Bool:=match dst with | some d=>t / 16==d | _=>false
def pT (P:Program) (t:TypeId) (f:Nat):Option (Nat × Nat) :=
 match aCw P t with
 | some fs=>(match fs[f]? with
  | some x=>(match P.info? x.type with | some i=>some (x.offset,i.size) | _=>.none)
  | _=>.none)
 | _=>.none
def aFk (P:Program) (t:TypeId):Bool:=match aCw P t with | some fs=>fs.toList.all (fun f=>(P.info? f.type).isSome) | _=>false
def aFo (P:Program) (t:TypeId) (ev:Operand→AV):List AV→List (Nat × Operand)→Option (List AV)
 | cs,[]=>some cs
 | cs,(i,x) :: r=>match pT P t i with
  | some (off,n)=>if (ev x).solid=true∧(ev x).cells.length=n∧off+n≤cs.length then aFo P t ev (cs.take off++(ev x).cells++cs.drop (off+n)) r else .none
  | _=>.none
def AV.pvh? (n:Nat):AV→Option PV
 | .c p=>some p
 | .own _ sz xs=>some (.list sz xs)
 | .nil=>some (.list n [])
 | _=>none
def AV.pvhs?:List Nat→List AV→Option (List PV)
 | _,[]=>some []
 | hs,a :: as=>match a.pvh? (hs.headD 0) with
  | some p=>match AV.pvhs? hs.tail as with
   | some ps=>some (p :: ps)
   | none=>none
  | none=>none
def aB4 (hs:List Nat) (sz:Nat) (ev:Operand→AV):Nat→List (Nat × Operand)→Option (List (List PV))
 | _,[]=>some []
 | k,(i,x) :: r=>if i=k then (match AV.pvhs? hs (ev x).cells with
  | some ps=>if ps.length=sz then (match aB4 hs sz ev (k+1) r with | some rs=>some (ps :: rs) | _=>.none) else .none
  | _=>.none) else .none
def aGs (ev:Operand→AV):Nat→List (Nat × Operand)→Option (List (Nat × Nat))
 | _,[]=>some []
 | k,(i,x) :: r=>if i=k then (match ev x with
  | .box id off=>(match aGs ev (k+1) r with | some rs=>some ((id,off) :: rs) | _=>.none)
  | _=>.none) else .none
def aBj (ag:Bool) (n:Nat) (x:AV) (σ:St) (K:AV→Prop):Prop :=
 match x with
 | .box id off=>(match σ[id]? with
  | some cs=>if ag then off+n≤cs.length∧K (.agg ((cs.drop off).take n)) else (match cs[off]? with | some a=>K a | _=>False)
  | _=>False)
 | .eptr cs off=>if ag then off+n≤cs.length∧K (.agg (((cs.drop off).take n).map AV.c)) else (match cs[off]? with | some p=>K (.c p) | _=>False)
 | .pptr p=>ag=false∧K (.box p.1 p.2)
 | _=>False
def wT (P:Program) (o:Oper) (t tx:TypeId) (s x:AV) (σ:St) (K:Option (Nat→Bool)→AV→St→Prop):Prop :=
 match lV P t with
 | some (_,sz,bytes) =>
  let go (f:Nat→Bool) (xs:List (List PV)):Prop :=
   match x with
   | .c (.list sz' ys)=>sz'=sz∧jZ P tx=3∧(∀ y∈ys,y.length=sz)∧(xs.length+ys.length)*bytes≤140737488355328∧K (some f) (.own (sQ o.dst) sz (xs++ys)) (σ.dem f)
   | .own _ sz' ys=>sz'=sz∧jZ P tx=3∧(∀ y∈ys,y.length=sz)∧(xs.length+ys.length)*bytes≤140737488355328∧K (some f) (.own (sQ o.dst) sz (xs++ys)) (σ.dem f)
   | .nil=>jZ P tx=3∧xs.length*bytes≤140737488355328∧K (some f) (.own (sQ o.dst) sz xs) (σ.dem f)
   | .c (.str b)=>sz=1∧jZ P tx=2∧(xs.length+b.length)*bytes≤140737488355328∧K (some f) (.own (sQ o.dst) 1 (xs++b.map hF)) (σ.dem f)
   | _=>False
  0<bytes∧match s with
  | .nil=>go (qP o.dst) []
  | .own t0 sz' xs=>sz'=sz∧go (fun t=>qP o.dst t||t==t0) xs
  | _=>False
 | _=>False
def tD (lo hi:Option AV) (len:Nat) (k:Nat→Nat→Prop):Prop :=
 match lo,hi with
 | .none,.none=>k 0 len
 | some (.c (.int _ l)),.none=>0≤l∧l≤len∧k l.toNat len
 | .none,some (.c (.int _ h))=>0≤h∧h≤len∧k 0 h.toNat
 | some (.c (.int _ l)),some (.c (.int _ h))=>0≤l∧l≤h∧h≤len∧k l.toNat h.toNat
 | _,_=>False
def aCZ (P:Program) (t:TypeId) (x:AV) (lo hi:Option AV) (K:AV→Prop):Prop :=
 match x with
 | .c (.str s)=>jZ P t=2∧tD lo hi s.length fun l h=>K (.c (.str ((s.take h).drop l)))
 | .c (.list sz xs)=>(match lV P t with | some (_,n,_)=>n=sz∧tD lo hi xs.length fun l h=>K (.c (.list sz ((xs.take h).drop l))) | _=>False)
 | .own _ sz xs=>(match lV P t with | some (_,n,_)=>n=sz∧tD lo hi xs.length fun l h=>K (.c (.list sz ((xs.take h).drop l))) | _=>False)
 | _=>False
def aHm (k:Nat) (x:AV) (K:AV→Prop):Prop :=
 match x with
 | .c (.list _ xs)=>k=3∧K (.c (.int .i64 xs.length))
 | .own _ _ xs=>k=3∧K (.c (.int .i64 xs.length))
 | .nil=>k=3∧K (.c (.int .i64 0))
 | .c (.str s)=>k=2∧K (.c (.int .i64 s.length))
 | .ptrs l=>k=3∧K (.c (.int .i64 l.length))
 | _=>False
def eG (P:Program) (o:Oper) (ev:Operand→AV) (σ:St) (K:Option (Nat→Bool)→AV→St→Prop):Prop :=
 match o.op with
 | .move x=>K .none (ev x) σ
 | .assign x=>K .none (ev x) σ
 | .pick x a b=>(match ev x with
  | .c (.bool t)=>(match ev a,ev b with
   | .c (.bool p),.c (.bool q)=>K .none (.c (.bool (if t then p else q))) σ
   | va,vb=>(t=true→K .none va σ)∧(t=false→K .none vb σ))
  | _=>False)
 | .alloc e=>(match mM P e with | some z=>K .none (.box σ.length 0) (σ++[z.map AV.ofFlat]) | _=>False)
 | .box e x=>(ev x).solid=true∧K .none (.box σ.length 0) (σ++[(ev x).cells])
 | .build t parts=>jZ P t=6∧aFk P t=true∧(match mM P t with
  | some z=>(match aFo P t ev (z.map AV.ofFlat) parts.toList with | some cs=>K .none (.agg cs) σ | _=>False)
  | _=>False)
 | .buildSlice t len parts=>(match lV P t with
  | some (_,sz,bytes)=>parts.toList.length=len∧len*sz≤1000000∧∃ hs:List Nat,(match aB4 hs sz ev 0 parts.toList with
   | some rows=>K (some (qP o.dst)) (.own (sQ o.dst) sz rows) (σ.dem (qP o.dst))
   | _=>(match aGs ev 0 parts.toList with
    | some l=>sz=1∧K .none (.ptrs l) σ
    | _=>False))
  | _=>False)
 | .load t x=>(match kX P t with | some (ag,n)=>aBj ag n (ev x) σ fun v=>K .none v σ | _=>False)
 | .store t x y=>(match kX P t with
  | some (_,n)=>(match ev x with
   | .box id off=>(ev y).solid=true∧(ev y).cells.length=n∧(match σ[id]? with
    | some cs=>off+n≤cs.length∧K .none .any (σ.set id (cs.take off++(ev y).cells++cs.drop (off+n)))
    | _=>False)
   | _=>False)
  | _=>False)
 | .nilCheck x=>(match ev x with
  | .box i k=>K .none (.box i k) σ
  | .eptr cs k=>K .none (.eptr cs k) σ
  | .pptr p=>K .none (.pptr p) σ
  | .fn f cs=>K .none (.fn f cs) σ
  | _=>False)
 | .binOp op t x y _=>zC P op t (ev x) (ev y) fun v=>K .none v σ
 | .unOp op _ x=>(match op,ev x with
  | .not,.c (.bool b)=>K .none (.c (.bool (!b))) σ
  | .neg,.c (.int k n)=>K .none (.c (.int k (k.wrap (0 - n)))) σ
  | _,_=>False)
 | .convert s d x=>(match ev x with
  | .c (.int _ n)=>(match aCx P d,aCx P s with | some k,some _=>K .none (.c (.int k (k.wrap n))) σ | _,_=>False)
  | .c (.str b)=>jZ P s=2∧jZ P d=2∧K .none (.c (.str b)) σ
  | .c (.list _ xs)=>tyBytes P s∧jZ P d=2∧∃ l:List UInt8,xs=l.map hF∧K .none (.c (.str l)) σ
  | .own _ _ xs=>tyBytes P s∧jZ P d=2∧∃ l:List UInt8,xs=l.map hF∧K .none (.c (.str l)) σ
  | .nil=>tyBytes P s∧jZ P d=2∧K .none (.c (.str [])) σ
  | _=>False)
 | .makeFunc (.func f) first captured=>first=#[]∧K .none (.fn f (captured.toList.map ev)) σ
 | .slice t x lo hi .none=>jZ P t≠7∧aCZ P t (ev x) (lo.map ev) (hi.map ev) fun v=>K .none v σ
 | .fieldAddr t x f=>(match eH P t f with
  | some (k,_,_)=>(match ev x with
   | .box id off=>K .none (.box id (off+k)) σ
   | .eptr cs off=>K .none (.eptr cs (off+k)) σ
   | _=>False)
  | _=>False)
 | .field t x f=>(match eH P t f with
  | some (k,ag,n)=>(match ev x with
   | .agg cs=>if ag then k+n≤cs.length∧K .none (.agg ((cs.drop k).take n)) σ else (match cs[k]? with | some a=>K .none a σ | _=>False)
   | _=>False)
  | _=>False)
 | .indexAddr t x ix=>(match lV P t with
  | some (_,sz,_)=>(match ev ix with
   | .c (.int _ i)=>(match ev x with
    | .c (.list sz' xs)=>sz'=sz∧0≤i∧i<xs.length∧∀ row,xs[i.toNat]?=some row→K .none (.eptr row 0) σ
    | .own _ sz' xs=>sz'=sz∧0≤i∧i<xs.length∧∀ row,xs[i.toNat]?=some row→K .none (.eptr row 0) σ
    | .ptrs l=>sz=1∧0≤i∧i<l.length∧∀ p,l[i.toNat]?=some p→K .none (.pptr p) σ
    | _=>False)
   | _=>False)
  | _=>False)
 | .index t x ix=>jZ P t=2∧(match ev x,ev ix with
  | .c (.str s),.c (.int _ i)=>0≤i∧i<s.length∧∀ b,s[i.toNat]?=some b→K .none (.c (.int .u8 b.toNat)) σ
  | _,_=>False)
 | .extract x i=>(match ev x with | .tup vs=>(match vs[i]? with | some a=>K .none a σ | _=>False) | _=>False)
 | .call { callee:=.builtin .len,args,argTypes }=>(match args.toList,argTypes.toList with
  | [x],[t]=>aHm (jZ P t) (ev x) fun v=>K .none v σ
  | _,_=>False)
 | .call { callee:=.builtin .append,args,argTypes }=>(match args.toList,argTypes.toList with
  | [s,x],[t,tx]=>wT P o t tx (ev s) (ev x) σ K
  | _,_=>False)
 | .call { callee:=.builtin .max,args,argTypes }=>(match args.toList with
  | [x,y]=>(match ev x,ev y with | .c (.int k a),.c (.int _ b)=>K .none (.c (.int k (if b > a then b else a))) σ | _,_=>False)
  | _=>False)
 | .call { callee:=.builtin .min,args,argTypes }=>(match args.toList with
  | [x,y]=>(match ev x,ev y with | .c (.int k a),.c (.int _ b)=>K .none (.c (.int k (if b<a then b else a))) σ | _,_=>False)
  | _=>False)
 | _=>False
where tyBytes (P:Program) (s:TypeId):Prop:=match P.underlying s with
 | some (.slice e)=>aCx P e=some .u8
 | _=>False

/- The operations' rules are sound. The operations' rules are sound (the rest, and all together). The builtin calls' rules, and all rules together. More operations: arrays' literals and elements, equality of structs and arrays, pointers to arrays that lie in slices. Rows that may be stored into, and arrays told by slices. Calls and code: the logic's judgements and their soundness. -/
import Derived.Test.YtnigjppddilpcaaGreatDoorAbs5
import Derived.ChangeKeysEq
import Derived.Laws.MakeOwn
namespace Go.Proofs.YtnigjppddilpcaaGreatDoor.Abs
open Go
set_option linter.unusedVariables false
set_option linter.unusedSimpArgs false
section
variable {P:Program}{c:Ctx}{g:G}{w:World}{σ:St}{K:Option (Nat→Bool)→AV→St→Prop}{a:Act}{fr:Fr}{dst:Option Tmp}{ty:TypeId}{pos:String}{after:Array Edge}{guard:Option (Nat × Bool)}
theorem aTE {x:Operand} (hi:xL c g w σ) (hf:RFr g w a.tmps fr) (h:K .none (fr.ev x) σ):yK P c ⟨dst,.move x,ty,pos,after,guard⟩ a.eval w g K :=
 .same hi (by simp [execOp]) (iX hf x) h
theorem aRo {x:Operand} (hi:xL c g w σ) (hf:RFr g w a.tmps fr) (h:K .none (fr.ev x) σ):yK P c ⟨dst,.assign x,ty,pos,after,guard⟩ a.eval w g K :=
 .same hi (by simp [execOp]) (iX hf x) h
theorem aTF {x p q:Operand} (hi:xL c g w σ) (hf:RFr g w a.tmps fr) (h:eL P ⟨dst,.pick x p q,ty,pos,after,guard⟩ fr.ev σ K):yK P c ⟨dst,.pick x p q,ty,pos,after,guard⟩ a.eval w g K:=by
 simp only [eL] at h
 have hx:=iX hf x
 have hp:=iX hf p
 have hq:=iX hf q
 split at h
 ·
  rename_i t ht
  rw [ht] at hx
  generalize hvx:a.eval x=vx at hx
  cases hx with
  | c hx =>
   cases hx
   split at h
   ·
    rename_i bp bq e1 e2
    rw [e1] at hp
    rw [e2] at hq
    refine .same hi (v:=if t then a.eval p else a.eval q) (by cases t <;> simp [execOp,hvx,asBool]) ?_ h
    cases t
    ·
     exact hq
    ·
     exact hp
   ·
    cases t
    ·
     exact .same hi (by simp [execOp,hvx,asBool]) hq (h.2 rfl)
    ·
     exact .same hi (by simp [execOp,hvx,asBool]) hp (h.1 rfl)
 ·
  exact h.elim
theorem aSc {e:TypeId} (hi:xL c g w σ) (hf:RFr g w a.tmps fr) (h:eL P ⟨dst,.alloc e,ty,pos,after,guard⟩ fr.ev σ K):yK P c ⟨dst,.alloc e,ty,pos,after,guard⟩ a.eval w g K:=by
 simp only [eL] at h
 split at h
 ·
  rename_i z hz
  unfold nC at hz
  cases hin:P.info? e with
  | none=>simp [hin] at hz
  | some i =>
   simp only [hin] at hz
   cases hzz:i.zero with
   | none=>simp [hzz] at hz
   | some zv =>
    simp only [hzz,eM] at hz
    subst hz
    have hc:iE g w zv.cells (zv.cells.toList.map AV.ofFlat):=by
     refine ⟨by simp,fun i v x hv hx=>?_⟩
     rw [cJ,eF,hv] at hx
     simp at hx
     subst hx
     exact oP.ofFlat g w v
    obtain ⟨g',hi',st,hb⟩:=hi.alloc zv.cells e _ hc
    refine ⟨_,.pointer (some ⟨w.heap.size,0,none⟩),w.alloc (.cells zv.cells e),.none,_,_,g',?_,.inl rfl,h,hi',st,.box _ _ _ hb⟩
    simp [execOp,Instr.alloc,newVar,newRow,zeroValue,typeInfo,hin,hzz]
 ·
  exact h.elim
theorem aUi {e:TypeId}{x:Operand} (hi:xL c g w σ) (hf:RFr g w a.tmps fr) (h:eL P ⟨dst,.box e x,ty,pos,after,guard⟩ fr.ev σ K):yK P c ⟨dst,.box e x,ty,pos,after,guard⟩ a.eval w g K:=by
 simp only [eL] at h
 obtain ⟨hs,hk⟩:=h
 obtain ⟨hc,_⟩:=(iX hf x).cells hs
 obtain ⟨g',hi',st,hb⟩:=hi.alloc (a.eval x).cells e _ hc
 refine ⟨_,.pointer (some ⟨w.heap.size,0,none⟩),w.alloc (.cells (a.eval x).cells e),.none,_,_,g',?_,.inl rfl,hk,hi',st,.box _ _ _ hb⟩
 simp [execOp,Instr.box,newVar,newRow]
theorem aLG {t:TypeId}{f off n:Nat} (h:pI P t f=some (off,n)):∃ fs x i,P.underlying t=some (.struct fs)∧fs[f]?=some x∧P.info? x.type=some i∧x.offset=off∧i.size=n:=by
 unfold pI aCL at h
 cases hu:P.underlying t with
 | none=>simp [hu] at h
 | some d =>
  cases d <;> simp only [hu] at h <;> try (cases h;done)
  rename_i fs
  cases hx:fs[f]? with
  | none=>simp [hx] at h
  | some x =>
   simp only [hx] at h
   cases hin:P.info? x.type with
   | none=>simp [hin] at h
   | some i =>
    simp only [hin,eM,oQ] at h
    exact ⟨fs,x,i,rfl,hx,hin,h.1,h.2⟩
theorem aIW (l:List Value):∀ (off:Nat) (cs:Array Value) (k:Nat),off+k+l.length≤cs.size →
  (l.zipIdx k).foldl (fun (cs:Array Value) (p:Value × Nat)=>cs.setIfInBounds (off+p.2) p.1) cs=(cs.toList.take (off+k)++l++cs.toList.drop (off+k+l.length)).toArray:=by
 induction l with
 | nil=>intro off cs k h;simp
 | cons v l ih =>
  intro off cs k h
  simp only [List.zipIdx_cons,List.foldl_cons]
  rw [ih off _ (k+1) (by simp at h ⊢;omega)]
  have e:=list_seg_step cs.toList (off+k) v l (by simp at h ⊢;omega)
  simp only [Array.toList_setIfInBounds]
  simpa [mM,Nat.add_comm 1] using e
theorem aHe (vs cs:Array Value) (off:Nat) (h:off+vs.size≤cs.size) :
  vs.zipIdx.foldl (fun (cs:Array Value) (x:Value × Nat)=>match x with | (c,j)=>cs.setIfInBounds (off+j) c) cs=(cs.toList.take off++vs.toList++cs.toList.drop (off+vs.size)).toArray:=by
 have:=aIW vs.toList off cs 0 (by simpa using h)
 simp only [tP,jT] at this
 rw [← this,← Array.foldl_toList,Array.toList_zipIdx]
theorem aHL {t:TypeId}{fs:Array Field}{places:Array (Nat × Nat)} (hfs:P.underlying t=some (.struct fs)) (hpl:∀ (i:Nat) off n,pI P t i=some (off,n)→places[i]?=some (off,n)) (hf:RFr g w a.tmps fr) :
  ∀ (parts:List (Nat × Operand)) (cs:List AV) (cur:Array Value) (r:List AV),iE g w cur cs→aFp P t fr.ev cs parts=some r →
   ∃ cur',Instr.fill (places[·]?) cur (parts.map fun (i,x)=>(i,a.eval x))=some cur'∧iE g w cur' r
 | [],cs,cur,r,hc,h=>by simp [aFp] at h;subst h;exact ⟨cur,rfl,hc⟩
 | (i,x) :: rest,cs,cur,r,hc,h=>by
  simp only [aFp] at h
  split at h
  ·
   rename_i off n hp
   split at h
   ·
    rename_i hcond
    obtain ⟨h1,h2,h3⟩:=hcond
    obtain ⟨hv,_⟩:=(iX hf x).cells h1
    have hsz:(a.eval x).cells.size=n:=hv.1.trans h2
    have hsp:=hc.splice hv off (by omega)
    obtain ⟨cur',hfill,hr⟩:=aHL hfs hpl hf rest _ _ r hsp (by rw [h2];exact h)
    refine ⟨cur',?_,hr⟩
    have hcs:cur.size=cs.length:=hc.1
    simp only [nI,Instr.fill,hpl i off n hp]
    rw [bE (by simp;omega),aHe _ _ _ (by omega)]
    exact hfill
   ·
    cases h
  ·
   cases h
theorem aMV {α β:Type}{f:α→Sem β}{h:α→β}:∀ {l:List α},(∀ x∈l,(f x).run P w=.ok (h x) w)→(l.mapM f).run P w=.ok (l.map h) w
 | [],_=>by simp
 | x :: l,hx=>by
  have h1:=hx x (by simp)
  have h2:=aMV (l:=l) (fun y hy=>hx y (by simp [hy]))
  simp [List.mapM_cons,h1,h2]
theorem aSe {t:TypeId}{parts:Array (Nat × Operand)} (hi:xL c g w σ) (hf:RFr g w a.tmps fr) (h:eL P ⟨dst,.build t parts,ty,pos,after,guard⟩ fr.ev σ K):yK P c ⟨dst,.build t parts,ty,pos,after,guard⟩ a.eval w g K:=by
 simp only [eL] at h
 obtain ⟨h6,hok,h⟩:=h
 split at h
 ·
  rename_i z hz
  split at h
  ·
   rename_i cs hcs
   unfold nC at hz
   cases hin:P.info? t with
   | none=>simp [hin] at hz
   | some i =>
    simp only [hin] at hz
    cases hzz:i.zero with
    | none=>simp [hzz] at hz
    | some zv =>
     simp only [hzz,eM] at hz
     subst hz
     have hc:iE g w zv.cells (zv.cells.toList.map AV.ofFlat):=by
      refine ⟨by simp,fun i v x hv hx=>?_⟩
      rw [cJ,eF,hv] at hx
      simp at hx
      subst hx
      exact oP.ofFlat g w v
     unfold kF at h6
     cases hu:P.underlying t with
     | none=>simp [hu] at h6
     | some d =>
      cases d <;> simp only [hu] at h6 <;> try (cases h6;done)
      rename_i fs
      have hall:∀ f∈fs.toList,∃ i,P.info? f.type=some i:=by
       simp only [aEr,aCL,hu,cR] at hok
       exact fun f hf'=>mQ.1 (hok f hf')
      ·
       have hm:=aMV (P:=P) (w:=w) (l:=fs.toList) (f:=fun (f:Field)=>(do pure (f.offset,← sizeOf f.type):Sem (Nat × Nat))) (h:=fun f=>(f.offset,((P.info? f.type).map (·.size)).getD 0))
        (fun f hf'=>by obtain ⟨i,hi⟩:=hall f hf';simp [sizeOf,typeInfo,hi])
       obtain ⟨cur',hfill,hr⟩:=aHL (P:=P) (a:=a) (fr:=fr) hu (places:=(fs.toList.map fun f=>(f.offset,((P.info? f.type).map (·.size)).getD 0)).toArray) (fun i off n hp=>by
        obtain ⟨fs',x,i',hu',hx,hin',ho,hn⟩:=aLG hp
        rw [hu] at hu'
        simp at hu'
        subst hu'
        simp [hx,hin',ho,hn]) hf parts.toList _ _ _ hc hcs
       refine .same hi (v:=.agg cur') ?_ (.agg cur' cs hr.1 hr.2) h
       have hz0:(zeroValue t).run P w=.ok zv w:=by simp [zeroValue,typeInfo,hin,hzz]
       have hfill':Instr.fill (fun x=>(fs.toList.map fun f=>(f.offset,((P.info? f.type).map (·.size)).getD 0)).toArray[x]?) zv.cells (parts.map fun (i,x)=>(i,a.eval x)).toList=some cur':=by rw [Array.toList_map];exact hfill
       simp only [execOp,Instr.build,Sem.run_bind,hz0,Result.andThen_ok,run_underlying hu,Array.mapM_eq_mapM_toList,Sem.run_map,hm,hfill',Sem.run_pure]
  ·
   exact h.elim
 ·
  exact h.elim
theorem oP.pvh {v:Value}{a:AV}{p:PV}{n:Nat} (h:oP g w v a) (hp:a.pvh? n=some p):RV g.I w v p:=by
 cases h with
 | c h=>simp [AV.pvh?] at hp;exact hp ▸ h
 | nil=>simp [AV.pvh?] at hp;exact hp ▸ .empty none 0 n
 | own t sz xs h=>simp [AV.pvh?] at hp;exact hp ▸ h.rv
 | _=>simp [AV.pvh?] at hp
theorem aHZ:∀ {hs:List Nat}{l:List AV}{ps:List PV},AV.pvhs? hs l=some ps→ps.length=l.length
 | hs,[],ps,h=>by simp [AV.pvhs?] at h;subst h;rfl
 | hs,a :: as,ps,h=>by
  simp only [AV.pvhs?] at h
  split at h
  ·
   split at h
   ·
    rename_i q hq
    simp only [eM] at h
    subst h
    simp [aHZ hq]
   ·
    cases h
  ·
   cases h
theorem aJe:∀ {hs:List Nat}{l:List AV}{ps:List PV},AV.pvhs? hs l=some ps→∀ (i:Nat) (p:PV),ps[i]?=some p→∃ a n,l[i]?=some a∧a.pvh? n=some p
 | hs,[],ps,h,i,p,hp=>by simp [AV.pvhs?] at h;subst h;simp at hp
 | hs,a :: as,ps,h,i,p,hp=>by
  simp only [AV.pvhs?] at h
  split at h
  ·
   rename_i q hq
   split at h
   ·
    rename_i qs hqs
    simp only [eM] at h
    subst h
    cases i with
    | zero=>simp at hp;subst hp;exact ⟨a,_,rfl,hq⟩
    | succ i=>simp at hp;exact aJe hqs i p hp
   ·
    cases h
  ·
   cases h
theorem aHQ {hs:List Nat}{sz:Nat} (hf:RFr g w a.tmps fr):∀ (parts:List (Nat × Operand)) (k:Nat) (rows:List (List PV)),aEc hs sz fr.ev k parts=some rows →
  ∃ cells,(∀ cur:Array Value,cur.size=(k+parts.length)*sz→Instr.fill (fun i=>some (i*sz,sz)) cur (parts.map fun (i,x)=>(i,a.eval x))=some (cur.toList.take (k*sz)++cells).toArray)∧cells.length=rows.length*sz∧rows.length=parts.length∧(∀ r∈rows,r.length=sz) ∧
   (∀ (i j:Nat) (x:List PV) (p:PV),rows[i]?=some x→x[j]?=some p→∃ u,cells[i*sz+j]?=some u∧RV g.I w u p)
 | [],k,rows,h=>by
  simp [aEc] at h
  subst h
  refine ⟨[],fun cur hc=>?_,by simp,rfl,by simp,by simp⟩
  simp only [List.map_nil,Instr.fill,List.append_nil]
  rw [nK (by simp at hc ⊢;omega)]
 | (i,x) :: rest,k,rows,h=>by
  simp only [aEc] at h
  split at h
  ·
   rename_i hik
   subst hik
   split at h
   ·
    rename_i ps hps
    split at h
    ·
     rename_i hlen
     split at h
     ·
      rename_i rs hrs
      simp only [eM] at h
      subst h
      have hx:=iX hf x
      have hcl:=aHZ hps
      have hsol:(fr.ev x).solid=true:=by
       have key:∀ y∈(fr.ev x).cells,y.flat=true:=by
        intro y hy
        obtain ⟨n,hn,rfl⟩:=List.getElem_of_mem hy
        have hn':n<ps.length:=by omega
        obtain ⟨a',n',ha',hp'⟩:=aJe hps n _ (aT hn')
        rw [aT hn] at ha'
        cases ha'
        revert hp'
        cases (fr.ev x).cells[n] <;> simp [AV.pvh?,AV.flat]
       revert key
       cases fr.ev x <;> simp [AV.cells,AV.solid,AV.flat]
      obtain ⟨hv,_⟩:=hx.cells hsol
      have hvs:(a.eval x).cells.size=sz:=by rw [hv.1,← hcl,hlen]
      have hk1:(i+1)*sz=i*sz+sz:=by rw [jD,Nat.one_mul]
      have hge:(rest.length+1)*sz=rest.length*sz+sz:=by rw [jD,Nat.one_mul]
      obtain ⟨cells,hfill0,h1,h2,h3,h4⟩:=aHQ hf rest (i+1) rs hrs
      refine ⟨(a.eval x).cells.toList++cells,fun cur hc=>?_,?_,by simp [h2],?_,?_⟩
      ·
       have hcs:cur.size=i*sz+(rest.length+1)*sz:=by rw [hc,fU,jD]
       have hnew:=aHe (a.eval x).cells cur (i*sz) (by omega)
       have hfill:=hfill0 (cur.toList.take (i*sz)++(a.eval x).cells.toList++cur.toList.drop (i*sz+(a.eval x).cells.size)).toArray (by
        simp only [List.size_toArray,jC,pM,kH,jT,hvs]
        rw [show (i+1+rest.length)*sz=i*sz+(rest.length*sz+sz) by rw [show i+1+rest.length=i+(rest.length+1) by omega,jD,hge]]
        omega)
       simp only [nI,Instr.fill]
       rw [bE (by simp;omega),hnew,hfill]
       congr 2
       have hl1:(cur.toList.take (i*sz)).length=i*sz:=by simp;omega
       rw [hk1,iU,List.take_append,hl1,← iU]
       congr 1
       rw [nK (by rw [hl1];omega)]
       congr 1
       rw [show i*sz+sz - i*sz=sz by omega,mP (by simp [hvs])]
       exact nK (by simp [hvs])
      ·
       simp only [jC,jT,hvs,h1,fU,jD,Nat.one_mul]
       omega
      ·
       intro r hr
       rcases fW.1 hr with rfl | hr
       ·
        exact hlen
       ·
        exact h3 r hr
      ·
       intro n j y p hy hp
       cases n with
       | zero =>
        simp only [List.getElem?_cons_zero,eM] at hy
        subst hy
        have hj:=(cD.1 hp).1
        obtain ⟨a',n',ha',hp'⟩:=aJe hps j p hp
        have hjs:j<(a.eval x).cells.size:=by omega
        refine ⟨(a.eval x).cells[j],?_,(hv.2 j _ a' (fQ hjs) ha').pvh hp'⟩
        rw [Nat.zero_mul,kY,dD (by simpa using hjs)]
        simp [hjs]
       | succ n =>
        simp only [pA] at hy
        obtain ⟨u,hu,hr⟩:=h4 n j y p hy hp
        refine ⟨u,?_,hr⟩
        rw [eB (by simp [hvs,jD];omega)]
        simp only [jT,hvs]
        rw [← hu]
        congr 1
        rw [jD,Nat.one_mul]
        omega
     ·
      cases h
    ·
     cases h
   ·
    cases h
  ·
   cases h
theorem aLg (hi:xL c g w σ) (f:Nat→Bool) (T:Nat) (hT:f T=true) {e:TypeId}{sz:Nat} (hpos:0<sz) {rows:List (List PV)}{cells:List Value} (hl:cells.length=rows.length*sz) (hm:rows.length≤maxLen) (hrows:∀ r∈rows,r.length=sz)
  (hv:∀ (i j:Nat) (x:List PV) (p:PV),rows[i]?=some x→x[j]?=some p→∃ u,cells[i*sz+j]?=some u∧RV g.I w u p) :
  ∃ g',xL c g' (w.alloc (.cells cells.toArray e)) (σ.dem f)∧Stp (g.dem f) w g' (w.alloc (.cells cells.toArray e))∧oP g' (w.alloc (.cells cells.toArray e)) (.slice (some ⟨w.heap.size,0,none⟩) rows.length rows.length) (.own T sz rows):=by
 let W:=w.alloc (.cells cells.toArray e)
 have hcell:∀ b o,b<w.heap.size→W.cell? ⟨b,o,none⟩=w.cell? ⟨b,o,none⟩:=fun b o h=>World.cell?_alloc_lt w _ _ h
 have hheap:∀ b,b<w.heap.size→W.heap[b]?=w.heap[b]?:=fun b h=>Go.RowKit.Below.heap_alloc w _ b h
 have hsz:(w.alloc (.cells cells.toArray e)).heap.size=w.heap.size+1:=by simp
 let I':Nat→Nat→Prop:=fun b o=>g.I b o∨(b=w.heap.size∧o<rows.length*sz)
 let g':G:={ I:=I',β:=g.β,τ:=fun t=>if t=T then some w.heap.size else if f t then none else g.τ t }
 have st:Stp (g.dem f) w g' W:=by
  refine ⟨fun b o h=>.inl h,fun b o h=>hcell b o (hi.Ilt b o h),fun _ _ h=>h,fun t b htb=>?_⟩
  simp only [G.dem] at htb
  split at htb
  ·
   cases htb
  ·
   rename_i hft
   have hft:f t=false:=by simpa using hft
   have hbl:=(hi.τnew t b htb).2.1
   refine ⟨?_,hheap b hbl,fun o h=>?_⟩
   ·
    show (if t=T then some w.heap.size else if f t then none else g.τ t)=some b
    rw [bE (by rintro rfl;rw [hT] at hft;cases hft),bE (by simp [hft])]
    exact htb
   ·
    rcases h with h | ⟨h,_⟩
    ·
     exact h
    ·
     omega
 refine ⟨g',?_,st,.own T sz rows ⟨hpos,hrows,e,cells,?_,fun i j x p hx hp=>?_,fun b hb=>?_⟩⟩
 ·
  refine ⟨hi.os,hi.tape,hi.output,by have:=hi.size;omega,fun b hb hn ho=>(hheap b (gW hb hi.size)).trans (hi.old b hb hn ho),fun b o h=>.inl (hi.Ile b o h),fun b o h hb ho=>?_,fun b o h=>?_,hi.βpre,hi.βnew,hi.βnd,?_,fun b hb o h=>?_,
   fun b hb=>by have:=hi.βlt b hb;omega,fun t b htb=>?_,fun t t' b h1 h2=>?_,fun id cs b hs' hb'=>?_,fun b o h=>(st.cell b o (hi.Ile b o h)).trans (hi.cell0 b o h),hi.glo⟩
  ·
   rcases h with h | ⟨h,_⟩
   ·
    exact hi.Iold b o h hb ho
   ·
    have:=hi.size
    omega
  ·
   rcases h with h | ⟨h,_⟩
   ·
    have:=hi.Ilt b o h
    omega
   ·
    omega
  ·
   rw [St.dem_eq,iI]
   exact hi.βlen
  ·
   rcases h with h | ⟨h,_⟩
   ·
    exact hi.βI b hb o h
   ·
    have:=hi.βlt b hb
    omega
  ·
   change (if t=T then some w.heap.size else if f t then none else g.τ t)=some b at htb
   split at htb
   ·
    simp at htb
    subst htb
    exact ⟨.inl hi.size,by omega,fun hb=>by have:=hi.βlt _ hb;omega⟩
   ·
    split at htb
    ·
     cases htb
    ·
     obtain ⟨h1,h2,h3⟩:=hi.τnew t b htb
     exact ⟨h1,by omega,h3⟩
  ·
   change (if t=T then some w.heap.size else if f t then none else g.τ t)=some b at h1
   change (if t'=T then some w.heap.size else if f t' then none else g.τ t')=some b at h2
   have key:∀ s,g.τ s=some b→b≠w.heap.size:=fun s hs'=>by have:=(hi.τnew s b hs').2.1;omega
   split at h1
   ·
    rename_i e1
    simp at h1
    split at h2
    ·
     rename_i e2
     rw [e1,e2]
    ·
     split at h2
     ·
      cases h2
     ·
      exact absurd h1.symm (key t' h2)
   ·
    split at h1
    ·
     cases h1
    ·
     split at h2
     ·
      simp at h2
      exact absurd h2.symm (key t h1)
     ·
      split at h2
      ·
       cases h2
      ·
       exact hi.τinj t t' b h1 h2
  ·
   obtain ⟨cur,e1,hh,hr⟩:=(hi.dem f).store id cs b hs' hb'
   exact ⟨cur,e1,(hheap b (hi.βlt b (dQ hb'))).trans hh,hr.stp st⟩
 ·
  exact ⟨hl,.inr ⟨w.heap.size,rows.length,cells.toArray,rfl,Nat.zero_le _,heap_alloc_new w _,iV _,hm,by simpa using hl,by simp [← hl]⟩⟩
 ·
  obtain ⟨u,hu,hr⟩:=hv i j x p hx hp
  exact ⟨u,hu,hr.mono (fun _ _ h=>.inl h) (fun b o h=>hcell b o (hi.Ilt b o h))⟩
 ·
  simp [Value.ownBlock] at hb
  subst hb
  refine ⟨by simp [g'],fun o=>⟨?_,fun h=>.inr ⟨rfl,h⟩⟩⟩
  rintro (h | ⟨_,h⟩)
  ·
   have:=hi.Ilt _ o h
   omega
  ·
   exact h
theorem aPH (hi:xL c g w σ) (cells:Array Value) (e:TypeId):∃ g',xL c g' (w.alloc (.cells cells e)) σ∧Stp g w g' (w.alloc (.cells cells e))∧g'.β=g.β∧∀ o,o<cells.size→g'.I w.heap.size o:=by
 have hcell:∀ b o,b<w.heap.size→(w.alloc (.cells cells e)).cell? ⟨b,o,none⟩=w.cell? ⟨b,o,none⟩:=fun b o h=>World.cell?_alloc_lt w _ _ h
 have hheap:∀ b,b<w.heap.size→(w.alloc (.cells cells e)).heap[b]?=w.heap[b]?:=fun b h=>Go.RowKit.Below.heap_alloc w _ b h
 have hsz:(w.alloc (.cells cells e)).heap.size=w.heap.size+1:=by simp
 let g':G:={ g with I:=fun b o=>g.I b o∨(b=w.heap.size∧o<cells.size) }
 have st:Stp g w g' (w.alloc (.cells cells e)):=by
  refine ⟨fun b o h=>.inl h,fun b o h=>hcell b o (hi.Ilt b o h),fun _ _ h=>h,fun t b htb=>⟨htb,hheap b (hi.τnew t b htb).2.1,fun o h=>?_⟩⟩
  rcases h with h | ⟨h,_⟩
  ·
   exact h
  ·
   have:=(hi.τnew t b htb).2.1
   omega
 refine ⟨g',⟨hi.os,hi.tape,hi.output,by have:=hi.size;omega,fun b hb hn ho=>(hheap b (gW hb hi.size)).trans (hi.old b hb hn ho),fun b o h=>.inl (hi.Ile b o h),fun b o h hb ho=>?_,fun b o h=>?_,hi.βpre,hi.βnew,hi.βnd,hi.βlen,fun b hb o h=>?_,
   fun b hb=>by have:=hi.βlt b hb;omega,fun t b htb=>?_,hi.τinj,fun id cs b hs' hb'=>?_,fun b o h=>(st.cell b o (hi.Ile b o h)).trans (hi.cell0 b o h),hi.glo⟩,st,rfl,fun o ho=>.inr ⟨rfl,ho⟩⟩
 ·
  rcases h with h | ⟨h,_⟩
  ·
   exact hi.Iold b o h hb ho
  ·
   have:=hi.size
   omega
 ·
  rcases h with h | ⟨h,_⟩
  ·
   have:=hi.Ilt b o h
   omega
  ·
   omega
 ·
  rcases h with h | ⟨h,_⟩
  ·
   exact hi.βI b hb o h
  ·
   have:=hi.βlt b hb
   omega
 ·
  obtain ⟨h1,h2,h3⟩:=hi.τnew t b htb
  exact ⟨h1,by omega,h3⟩
 ·
  obtain ⟨cur,e1,hh,hr⟩:=hi.store id cs b hs' hb'
  exact ⟨cur,e1,(hheap b (hi.βlt b (dQ hb'))).trans hh,hr.stp st⟩
theorem aHO (hf:RFr g w a.tmps fr):∀ (parts:List (Nat × Operand)) (k:Nat) (l:List (Nat × Nat)),aGf fr.ev k parts=some l →
  ∃ cells,(∀ cur:Array Value,cur.size=k+parts.length→Instr.fill (fun i=>some (i*1,1)) cur (parts.map fun (i,x)=>(i,a.eval x))=some (cur.toList.take k++cells).toArray)∧cells.length=l.length∧l.length=parts.length ∧
   (∀ (i:Nat) (p:Nat × Nat),l[i]?=some p→∃ bk,g.β[p.1]?=some bk∧cells[i]?=some (.pointer (some ⟨bk,p.2,none⟩)))
 | [],k,l,h=>by
  simp [aGf] at h
  subst h
  refine ⟨[],fun cur hc=>?_,rfl,rfl,by simp⟩
  simp only [List.map_nil,Instr.fill,List.append_nil]
  rw [nK (by simp at hc ⊢;omega)]
 | (i,x) :: rest,k,l,h=>by
  simp only [aGf] at h
  split at h
  ·
   rename_i hik
   subst hik
   split at h
   ·
    rename_i id off hx0
    split at h
    ·
     rename_i rs hrs
     simp only [eM] at h
     subst h
     have hx:=iX hf x
     rw [hx0] at hx
     generalize hvx:a.eval x=vx at hx
     cases hx
     rename_i bk hb
     have hv1:(a.eval x).cells.toList=[Value.pointer (some ⟨bk,off,none⟩)]:=by rw [hvx];rfl
     have hv2:(a.eval x).cells.size=1:=by rw [hvx];rfl
     obtain ⟨cells,hfill0,h1,h2,h4⟩:=aHO hf rest (i+1) rs hrs
     refine ⟨Value.pointer (some ⟨bk,off,none⟩) :: cells,fun cur hc=>?_,by simp [h1],by simp [h2],?_⟩
     ·
      have hcs:cur.size=i+(rest.length+1):=by simpa using hc
      have hnew:=aHe (a.eval x).cells cur i (by omega)
      rw [hv1,hv2] at hnew
      have hfill:=hfill0 (cur.toList.take i++[Value.pointer (some ⟨bk,off,none⟩)]++cur.toList.drop (i+1)).toArray (by simp;omega)
      simp only [nI,Instr.fill,Nat.mul_one]
      simp only [Nat.mul_one] at hfill
      rw [bE (by simp [hv2];omega),hnew,hfill]
      congr 2
      have hl1:(cur.toList.take i).length=i:=by simp;omega
      rw [iU,List.take_append,hl1,List.append_cons]
      congr 1
      rw [nK (by rw [hl1];omega)]
      simp
     ·
      intro n p hp
      cases n with
      | zero=>simp at hp;subst hp;exact ⟨bk,hb,rfl⟩
      | succ n=>simp at hp;simpa using h4 n p hp
    ·
     cases h
   ·
    cases h
  ·
   cases h
theorem aES {t e:TypeId}{i:TypeInfo}{z:Value} (hu:P.underlying t=some (.slice e)) (hin:P.info? e=some i) (hz:i.zero=some z) (len:Nat) (parts:Array (Nat × Value)) (hbig:len*i.size≤1000000) (cells:List Value)
  (hfill:∀ cur:Array Value,cur.size=len*i.size→Instr.fill (fun k=>some (k*i.size,i.size)) cur parts.toList=some cells.toArray) :
  (Instr.buildSlice t len parts).run P w=.ok (.slice (some ⟨w.heap.size,0,none⟩) len len) (w.alloc (.cells cells.toArray e)):=by
 have hbig2:¬(len*i.size > 2 ^ 24):=by omega
 have h1:(sizeOf e).run P w=.ok i.size w:=by simp [sizeOf,typeInfo,hin]
 have hz0:(zeroValue e).run P w=.ok z w:=by simp [zeroValue,typeInfo,hin,hz]
 simp only [Instr.buildSlice,Sem.run_bind,run_underlying hu,Result.andThen_ok,h1,Sem.run_ite,hbig2,eU,Sem.run_pure]
 by_cases h0:len*i.size=0
 ·
  simp only [h0,dP,Result.andThen_ok]
  rw [hfill _ (by simp [h0])]
  simp [newRow]
 ·
  simp only [h0,eU,hz0,Result.andThen_ok]
  rw [hfill _ (by simp)]
  simp [newRow]
theorem aLu {t:TypeId}{len:Nat}{parts:Array (Nat × Operand)} (hi:xL c g w σ) (hf:RFr g w a.tmps fr) (h:eL P ⟨dst,.buildSlice t len parts,ty,pos,after,guard⟩ fr.ev σ K) (hd:dst.isSome=true):yK P c ⟨dst,.buildSlice t len parts,ty,pos,after,guard⟩ a.eval w g K:=by
 simp only [eL] at h
 obtain ⟨d,rfl⟩:=mQ.1 hd
 split at h
 ·
  rename_i e sz bytes hts
  obtain ⟨hlen,hbig,hs,h⟩:=h
  obtain ⟨hu,i,z,hin,hz,hzs,hpos,hsz,_⟩:=aB9 hts
  subst hsz
  split at h
  ·
   rename_i rows hrows
   obtain ⟨cells,hfill0,h1,h2,h3,h4⟩:=aHQ hf parts.toList 0 rows hrows
   have hfill:∀ cur:Array Value,cur.size=len*i.size→Instr.fill (fun k=>some (k*i.size,i.size)) cur (parts.map fun (k,x)=>(k,a.eval x)).toList=some cells.toArray:=by
    intro cur hcur
    rw [Array.toList_map,hfill0 cur (by rw [hcur,hlen,kY])]
    simp
   obtain ⟨g',hi',st,hr⟩:=aLg hi (vS (some d)) (yD (some d)) (by simp [vS,yD]) (e:=e) (by omega:0<i.size) h1 (by unfold maxLen;have:=Nat.le_mul_of_pos_right rows.length hpos;rw [h2,hlen] at this ⊢;omega) h3 h4
   have hl2:rows.length=len:=h2.trans hlen
   rw [hl2] at hr
   exact ⟨_,_,_,_,_,_,g',by simp [execOp,aES hu hin hz len _ hbig cells hfill],.inl rfl,h,hi',st,hr⟩
  ·
   split at h
   ·
    rename_i l hl
    obtain ⟨h1s,h⟩:=h
    obtain ⟨cells,hfill0,h1,h2,h4⟩:=aHO (g:=g) (w:=w) hf parts.toList 0 l hl
    have hfill:∀ cur:Array Value,cur.size=len*i.size→Instr.fill (fun k=>some (k*i.size,i.size)) cur (parts.map fun (k,x)=>(k,a.eval x)).toList=some cells.toArray:=by
     intro cur hcur
     rw [h1s] at hcur ⊢
     rw [Array.toList_map,hfill0 cur (by rw [hcur,hlen];omega)]
     simp
    obtain ⟨g',hi',st,hβ,hI⟩:=aPH hi cells.toArray e
    have hll:l.length=len:=h2.trans hlen
    refine ⟨_,_,_,.none,_,_,g',by simp [execOp,aES hu hin hz len _ hbig cells hfill];rfl,.inl rfl,h,hi',st,?_⟩
    have hp:=oP.ptrs (g:=g') (w:=w.alloc (.cells cells.toArray e)) w.heap.size 0 len l (by omega) (fun k p hp=>?_)
    ·
     rw [hll] at hp
     exact hp
    ·
     obtain ⟨bk,hb,hc⟩:=h4 k p hp
     have hk:=(cD.1 hc).1
     refine ⟨by rw [kY];exact hI k (by simpa using hk),bk,by rw [hβ];exact hb,?_⟩
     rw [kY,aGh (heap_alloc_new w _)]
     simpa using hc
   ·
    exact h.elim
 ·
  exact h.elim
end
section
variable {P:Program}{c:Ctx}{g:G}{w:World}{σ:St}{K:Option (Nat→Bool)→AV→St→Prop}{a:Act}{fr:Fr}{dst:Option Tmp}{ty:TypeId}{pos:String}{after:Array Edge}{guard:Option (Nat × Bool)}
theorem oP.c_inv {g:G}{w:World}{v:Value}{p:PV} (h:oP g w v (.c p)):RV g.I w v p:=by cases h;assumption
theorem oP.own_inv {g:G}{w:World}{v:Value}{t sz:Nat}{xs:List (List PV)} (h:oP g w v (.own t sz xs)):aNj g w v t sz xs:=by cases h;assumption
theorem aHM {t:TypeId}{ag:Bool}{n:Nat}{x:AV}{vx:Value}{Q:AV→Prop} (hi:xL c g w σ) (ht:oV P t=some (ag,n)) (hx:oP g w vx x) (h:aBy ag n x σ Q) :
  ∃ v av,(Instr.loadAt t vx).run P w=.ok v w∧oP g w v av∧Q av:=by
 unfold aBy at h
 split at h
 ·
  rename_i id off
  cases hx with
  | box _ _ b hb =>
   split at h
   ·
    rename_i cs hs
    obtain ⟨cur,e,hh,hc⟩:=hi.store id cs b hs hb
    split at h
    ·
     rename_i hag
     subst hag
     obtain ⟨hfit,hq⟩:=h
     have hcs:cur.size=cs.length:=hc.1
     have hsub:=hc.sub off n
     refine ⟨.agg (cur.extract off (off+n)),_,?_,.agg _ _ hsub.1 hsub.2,hq⟩
     have:=aHV (P:=P) (w:=w) (a:=⟨b,off,none⟩) (cur.extract off (off+n)).toList ht (by simp;omega) (fun j v hv=>by
      rw [aBx,aGh hh]
      rw [eF,Array.getElem?_extract] at hv
      split at hv
      ·
       exact hv
      ·
       cases hv)
     have e1:(cur.extract off (off+n)).toList.toArray=cur.extract off (off+n):=by simp only [Array.toArray_toList]
     rw [e1] at this
     simp only [Instr.loadAt,Instr.sureAddr,Sem.run_bind,Sem.run_pure,Result.andThen_ok,this]
    ·
     rename_i hag
     have hag:ag=false:=by simpa using hag
     subst hag
     split at h
     ·
      rename_i av hav
      have hlt:=(cD.1 hav).1
      have hlt':off<cur.size:=by rw [hc.1];exact hlt
      have hcell:w.cell? ⟨b,off,none⟩=some cur[off]:=by rw [aGh hh,fQ hlt']
      exact ⟨cur[off],av,by simpa [Instr.loadAt,Instr.sureAddr] using aEE ht hcell,hc.2 off _ av (fQ hlt') hav,h⟩
     ·
      exact h.elim
   ·
    exact h.elim
 ·
  rename_i cs off
  cases hx with
  | eptr b o _ _ vs hcell hv =>
   split at h
   ·
    rename_i hag
    subst hag
    obtain ⟨hfit,hq⟩:=h
    refine ⟨.agg ((List.range n).map fun j=>vs (off+j)).toArray,_,?_,.agg _ _ (by simp;omega) (fun i v av hiv hav=>?_),hq⟩
    ·
     have:=aHV (P:=P) (w:=w) (a:=⟨b,o+off,none⟩) ((List.range n).map fun j=>vs (off+j)) ht (by simp) (fun j v hv'=>by
      rw [cJ,cM] at hv'
      obtain ⟨k,hk,rfl⟩:=hv'
      have hkl:=(cD.1 hk)
      have hk1:=hkl.1
      have hk2:=hkl.2
      simp at hk1 hk2
      subst hk2
      rw [aBx,mM]
      exact (hcell (off+j) (by omega)).2)
     simpa [Instr.loadAt,Instr.sureAddr] using this
    ·
     rw [cJ,cM] at hav
     obtain ⟨p,hp,rfl⟩:=hav
     rw [pV] at hp
     split at hp
     ·
      rw [iN] at hp
      simp only [List.getElem?_toArray,cJ,cM] at hiv
      obtain ⟨k,hk,rfl⟩:=hiv
      have hkl:=(cD.1 hk)
      have hk1:=hkl.1
      have hk2:=hkl.2
      simp at hk1 hk2
      subst hk2
      exact .c (hv _ p hp)
     ·
      cases hp
   ·
    rename_i hag
    have hag:ag=false:=by simpa using hag
    subst hag
    split at h
    ·
     rename_i p hp
     have hlt:=(cD.1 hp).1
     exact ⟨vs off,.c p,by simpa [Instr.loadAt,Instr.sureAddr] using aEE ht (hcell off hlt).2,.c (hv off p hp),h⟩
    ·
     exact h.elim
 ·
  rename_i p
  obtain ⟨hag,hq⟩:=h
  subst hag
  cases hx with
  | pptr b o bk _ hI hb hc =>
   exact ⟨_,.box p.1 p.2,by simpa [Instr.loadAt,Instr.sureAddr] using aEE ht hc,.box _ _ _ hb,hq⟩
 ·
  exact h.elim
theorem aTD {t:TypeId}{x:Operand} (hi:xL c g w σ) (hf:RFr g w a.tmps fr) (h:eL P ⟨dst,.load t x,ty,pos,after,guard⟩ fr.ev σ K):yK P c ⟨dst,.load t x,ty,pos,after,guard⟩ a.eval w g K:=by
 simp only [eL] at h
 split at h
 ·
  rename_i ag n ht
  obtain ⟨v,av,hr,hv,hk⟩:=aHM hi ht (iX hf x) h
  exact .same hi (by simp [execOp,hr]) hv hk
 ·
  exact h.elim
theorem aSi {t:TypeId}{x y:Operand} (hi:xL c g w σ) (hf:RFr g w a.tmps fr) (h:eL P ⟨dst,.store t x y,ty,pos,after,guard⟩ fr.ev σ K):yK P c ⟨dst,.store t x y,ty,pos,after,guard⟩ a.eval w g K:=by
 simp only [eL] at h
 split at h
 ·
  rename_i ag n ht
  have hx:=iX hf x
  split at h
  ·
   rename_i id off hx0
   rw [hx0] at hx
   generalize hvx:a.eval x=vx at hx
   cases hx with
   | box _ _ b hb =>
    obtain ⟨hs,hl,h⟩:=h
    split at h
    ·
     rename_i cs hcs
     obtain ⟨hfit,hk⟩:=h
     obtain ⟨cur,e,hh,hc⟩:=hi.store id cs b hcs hb
     obtain ⟨hv,h1⟩:=(iX hf y).cells hs
     have hvl:(a.eval y).cells.size=n:=hv.1.trans hl
     have hcl:cur.size=cs.length:=hc.1
     have hsp:=hc.splice hv off (by rw [hl];exact hfit)
     rw [hl] at hsp
     obtain ⟨hi',st⟩:=hi.setRow hcs hb hh hsp
     refine ⟨.skip,undef,_,.none,.any,_,g,?_,.inr ⟨rfl,rfl⟩,hk,hi',st,.any⟩
     have hst:=run_storeCells_at P b off e (a.eval y).cells.toList 0 cur w hh (by simp;omega) h1
     simp only [tP,jT] at hst
     have hne:¬((a.eval y).cells.size≠n):=by simp [hvl]
     simp [execOp,Instr.storeAt,Instr.sureAddr,hvx,storeVar,(yE ht w).2,hvl,hst]
    ·
     exact h.elim
  ·
   exact h.elim
 ·
  exact h.elim
theorem aOi {x:Operand} (hi:xL c g w σ) (hf:RFr g w a.tmps fr) (h:eL P ⟨dst,.nilCheck x,ty,pos,after,guard⟩ fr.ev σ K):yK P c ⟨dst,.nilCheck x,ty,pos,after,guard⟩ a.eval w g K:=by
 simp only [eL] at h
 have hx:=iX hf x
 split at h
 ·
  rename_i i k hx0
  rw [hx0] at hx
  generalize hvx:a.eval x=vx at hx
  cases hx with
  | box _ _ b hb=>exact .same hi (by simp [execOp,hvx]) (.box _ _ b hb) h
 ·
  rename_i cs k hx0
  rw [hx0] at hx
  generalize hvx:a.eval x=vx at hx
  cases hx with
  | eptr b o _ _ vs hc hv=>exact .same hi (by simp [execOp,hvx]) (.eptr b o _ _ vs hc hv) h
 ·
  rename_i p hx0
  rw [hx0] at hx
  generalize hvx:a.eval x=vx at hx
  cases hx with
  | pptr b o bk _ hI hb hc=>exact .same hi (by simp [execOp,hvx]) (.pptr b o bk _ hI hb hc) h
 ·
  rename_i f cs hx0
  rw [hx0] at hx
  generalize hvx:a.eval x=vx at hx
  cases hx with
  | fn _ vs _ hl ha=>exact .same hi (by simp [execOp,hvx]) (.fn f vs cs hl ha) h
 ·
  exact h.elim
theorem aSd {op:BinOp}{t t2:TypeId}{x y:Operand} (hi:xL c g w σ) (hf:RFr g w a.tmps fr) (h:eL P ⟨dst,.binOp op t x y t2,ty,pos,after,guard⟩ fr.ev σ K):yK P c ⟨dst,.binOp op t x y t2,ty,pos,after,guard⟩ a.eval w g K:=by
 simp only [eL] at h
 obtain ⟨v,av,hr,hv,hk⟩:=aNl h (iX hf x) (iX hf y) x y
 refine .same hi ?_ hv hk
 simp only [execOp]
 rw [Sem.run_bind,hr]
 rfl
theorem aTG {op:UnOp}{t:TypeId}{x:Operand} (hi:xL c g w σ) (hf:RFr g w a.tmps fr) (h:eL P ⟨dst,.unOp op t x,ty,pos,after,guard⟩ fr.ev σ K):yK P c ⟨dst,.unOp op t x,ty,pos,after,guard⟩ a.eval w g K:=by
 simp only [eL] at h
 have hx:=iX hf x
 split at h
 ·
  rename_i b hx0
  rw [hx0] at hx
  generalize hvx:a.eval x=vx at hx
  cases hx with
  | c hx=>cases hx;exact .same hi (v:=.bool (!b)) (by simp [execOp,hvx,Op.unary]) (.c (.bool _)) h
 ·
  rename_i k n hx0
  rw [hx0] at hx
  generalize hvx:a.eval x=vx at hx
  cases hx with
  | c hx=>cases hx;exact .same hi (v:=.int k (k.wrap (0 - n))) (by simp [execOp,hvx,Op.unary,Op.intArith]) (.c (.int _ _)) h
 ·
  exact h.elim
theorem aD1 {t:TypeId}{k:IntKind} (h:aC2 P t=some k):P.underlying t=some (.int k):=by
 unfold aC2 at h
 cases hu:P.underlying t with
 | none=>simp [hu] at h
 | some d=>cases d <;> simp_all
theorem aJy {t:TypeId} (h:kF P t=2):P.underlying t=some .string:=by
 unfold kF at h
 cases hu:P.underlying t with
 | none=>simp [hu] at h
 | some d=>cases d <;> simp_all
theorem aNa {t:TypeId} (h:kF P t=3):∃ e,P.underlying t=some (.slice e):=by
 unfold kF at h
 cases hu:P.underlying t with
 | none=>simp [hu] at h
 | some d=>cases d <;> simp_all
theorem aPp (l:List UInt8):∀ (s:ByteArray),(l.map fun b=>(b.toNat:Int)).foldl (fun r n=>r.push (UInt8.ofNat n.toNat)) s=⟨s.data++l.toArray⟩:=by
 induction l with
 | nil=>intro s;simp
 | cons b l ih =>
  intro s
  simp only [nI,List.foldl_cons,ih]
  apply ByteArray.ext
  simp [ByteArray.push]
theorem aG9 {s d:TypeId} (hs:eL.tyBytes P s) (hd:kF P d=2) {v:Value}{sz:Nat}{l:List UInt8} (h:RV g.I w v (.list sz (l.map iT))):(convert s d v).run P w=.ok (.string ⟨l.toArray⟩) w:=by
 unfold eL.tyBytes at hs
 split at hs
 ·
  rename_i e hu
  have he:=aD1 hs
  have hd:=aJy hd
  generalize hxs:l.map iT=xs at h
  cases h with
  | empty A cap sz =>
   have:l=[]:=by cases l <;> simp_all
   subst this
   rw [run_convert_bytes_string w s d e A 0 cap hu he hd]
   cases A <;> simp [Conv.bytesToString,loadCells,loadCellsFrom] <;> rfl
  | row b o cap sz xs vs hsz hcap hc hv =>
   subst hxs
   rw [run_convert_bytes_string w s d e _ _ cap hu he hd]
   have hcell:∀ j u,(l.map fun b=>Value.int .u8 (b.toNat:Int))[j]?=some u→w.cell? ((⟨b,o,none⟩:Addr).add j)=some u:=by
    intro j u hu'
    rw [cJ,cM] at hu'
    obtain ⟨x,hx,rfl⟩:=hu'
    have hj:=(cD.1 hx).1
    have h1:sz=1:=by
     have:=hsz (iT x) (List.mem_map.2 ⟨x,dQ hx,rfl⟩)
     simpa [iT] using this.symm
    subst h1
    rw [aBx,(hc j (by simpa using hj)).2]
    have:=hv j 0 (iT x) (.int .u8 x.toNat) (by simp [hx]) rfl
    simp only [Nat.mul_one,tP] at this
    generalize vs j=vj at this
    cases this
    rfl
   have hl:=run_loadCells_list (P:=P) w ⟨b,o,none⟩ _ hcell
   rw [iI] at hl
   rw [iI,run_bytesToString w ⟨b,o,none⟩ l.length cap (l.map fun b=>(b.toNat:Int)) (by rw [hl,List.map_map];rfl)]
   rw [aPp]
   congr 2
   apply ByteArray.ext
   simp
 ·
  exact hs.elim
theorem aPP {s d:TypeId}{x:Operand} (hi:xL c g w σ) (hf:RFr g w a.tmps fr) (h:eL P ⟨dst,.convert s d x,ty,pos,after,guard⟩ fr.ev σ K):yK P c ⟨dst,.convert s d x,ty,pos,after,guard⟩ a.eval w g K:=by
 simp only [eL] at h
 have hx:=iX hf x
 split at h
 ·
  rename_i k n hx0
  rw [hx0] at hx
  generalize hvx:a.eval x=vx at hx
  split at h
  ·
   rename_i kd ks hd hs
   cases hx with
   | c hx =>
    cases hx
    exact .same hi (v:=.int kd (kd.wrap n)) (by simp [execOp,hvx,convert,run_underlying (aD1 hd),run_underlying (aD1 hs),Conv.intToInt]) (.c (.int _ _)) h
  ·
   exact h.elim
 ·
  rename_i b hx0
  rw [hx0] at hx
  generalize hvx:a.eval x=vx at hx
  obtain ⟨h1,h2,h⟩:=h
  cases hx with
  | c hx =>
   cases hx
   exact .same hi (v:=.string ⟨b.toArray⟩) (by simp [execOp,hvx,convert,run_underlying (aJy h1),run_underlying (aJy h2)]) (.c (.str _)) h
 ·
  rename_i sz xs hx0
  rw [hx0] at hx
  obtain ⟨h1,h2,l,rfl,h⟩:=h
  exact .same hi (by simp only [execOp,Sem.run_bind,aG9 h1 h2 hx.c_inv,Result.andThen_ok,Sem.run_pure]) (.c (.str _)) h
 ·
  rename_i t sz xs hx0
  rw [hx0] at hx
  obtain ⟨h1,h2,l,rfl,h⟩:=h
  exact .same hi (by simp only [execOp,Sem.run_bind,aG9 h1 h2 hx.own_inv.rv,Result.andThen_ok,Sem.run_pure]) (.c (.str _)) h
 ·
  rename_i hx0
  rw [hx0] at hx
  obtain ⟨h1,h2,h⟩:=h
  generalize hvx:a.eval x=vx at hx
  cases hx
  have:=aG9 (g:=g) (w:=w) (l:=[]) (sz:=1) h1 h2 (.empty .none 0 1)
  exact .same hi (by simp only [execOp,hvx,Sem.run_bind,this,Result.andThen_ok,Sem.run_pure]) (.c (.str _)) h
 ·
  exact h.elim
theorem aOh {fn:Fn}{first captured:Array Operand} (hi:xL c g w σ) (hf:RFr g w a.tmps fr) (h:eL P ⟨dst,.makeFunc fn first captured,ty,pos,after,guard⟩ fr.ev σ K):yK P c ⟨dst,.makeFunc fn first captured,ty,pos,after,guard⟩ a.eval w g K:=by
 cases fn <;> simp only [eL] at h
 rename_i f
 obtain ⟨rfl,h⟩:=h
 refine .same hi (v:=.func (.func f) #[] (captured.map a.eval)) (by simp [execOp,Instr.makeFunc]) (.fn f _ _ (by simp) (fun i v av hv hav=>?_)) h
 rw [Array.getElem?_map,cM] at hv
 obtain ⟨y,hy,rfl⟩:=hv
 rw [cJ,eF,hy] at hav
 simp at hav
 subst hav
 exact iX hf y
theorem aGP {t:TypeId}{f k n:Nat}{ag:Bool} (h:eI P t f=some (k,ag,n)):∃ fs x,P.underlying t=some (.struct fs)∧fs[f]?=some x∧x.offset=k∧oV P x.type=some (ag,n)∧n≠0:=by
 unfold eI aCL at h
 cases hu:P.underlying t with
 | none=>simp [hu] at h
 | some d =>
  cases d <;> simp only [hu] at h <;> try (cases h;done)
  rename_i fs
  cases hx:fs[f]? with
  | none=>simp [hx] at h
  | some x =>
   simp only [hx] at h
   cases hv:oV P x.type with
   | none=>simp [hv] at h
   | some p =>
    obtain ⟨ag',n'⟩:=p
    simp only [hv] at h
    split at h
    ·
     cases h
    ·
     rename_i hn
     simp only [eM,oQ] at h
     obtain ⟨rfl,rfl,rfl⟩:=h
     exact ⟨fs,x,rfl,hx,rfl,hv,hn⟩
theorem aMX {t:TypeId}{x:Operand}{f:Nat} (hi:xL c g w σ) (hf:RFr g w a.tmps fr) (h:eL P ⟨dst,.fieldAddr t x f,ty,pos,after,guard⟩ fr.ev σ K):yK P c ⟨dst,.fieldAddr t x f,ty,pos,after,guard⟩ a.eval w g K:=by
 simp only [eL] at h
 split at h
 ·
  rename_i k ag n ht
  obtain ⟨fs,y,hu,hy,rfl,hv,hn⟩:=aGP ht
  have hx:=iX hf x
  have hrun:∀ b o,(Instr.fieldAt t (.pointer (some ⟨b,o,none⟩)) f).run P w=.ok (.pointer (some ⟨b,o+y.offset,none⟩)) w:=by
   intro b o
   simp [Instr.fieldAt,run_underlying hu,hy,Instr.sureAddr,fieldPlace,(yE hv w).2,hn,aBx]
  split at h
  ·
   rename_i id off hx0
   rw [hx0] at hx
   generalize hvx:a.eval x=vx at hx
   cases hx with
   | box _ _ b hb=>exact .same hi (by simp only [execOp,hvx,Sem.run_bind,hrun,Result.andThen_ok,Sem.run_pure]) (.box _ _ b hb) h
  ·
   rename_i cs off hx0
   rw [hx0] at hx
   generalize hvx:a.eval x=vx at hx
   cases hx with
   | eptr b o _ _ vs hc hv=>exact .same hi (v:=.pointer (some ⟨b,o+(off+y.offset),none⟩)) (by simp only [execOp,hvx,Sem.run_bind,hrun,Result.andThen_ok,Sem.run_pure,mM]) (.eptr b o _ _ vs hc hv) h
  ·
   exact h.elim
 ·
  exact h.elim
theorem aSf {t:TypeId}{x:Operand}{f:Nat} (hi:xL c g w σ) (hf:RFr g w a.tmps fr) (h:eL P ⟨dst,.field t x f,ty,pos,after,guard⟩ fr.ev σ K):yK P c ⟨dst,.field t x f,ty,pos,after,guard⟩ a.eval w g K:=by
 simp only [eL] at h
 split at h
 ·
  rename_i k ag n ht
  obtain ⟨fs,y,hu,hy,rfl,hv,hn⟩:=aGP ht
  have hx:=iX hf x
  split at h
  ·
   rename_i cs hx0
   rw [hx0] at hx
   generalize hvx:a.eval x=vx at hx
   cases hx with
   | agg vs _ hl ha =>
    have hrun:(Instr.field t (.agg vs) f).run P w=(part y.type vs y.offset).run P w:=by simp [Instr.field,run_underlying hu,hy,asAgg]
    split at h
    ·
     rename_i hag
     subst hag
     obtain ⟨hfit,h⟩:=h
     have hsub:=iE.sub (g:=g) (w:=w) ⟨hl,ha⟩ y.offset n
     exact .same hi (v:=.agg (vs.extract y.offset (y.offset+n))) (by simp [execOp,hvx,hrun,part,(yE hv w).1,(yE hv w).2]) (.agg _ _ hsub.1 hsub.2) h
    ·
     rename_i hag
     have hag:ag=false:=by simpa using hag
     subst hag
     split at h
     ·
      rename_i av hav
      have hlt:y.offset<vs.size:=by rw [hl];exact (cD.1 hav).1
      exact .same hi (v:=vs[y.offset]) (by simp [execOp,hvx,hrun,part,(yE hv w).1,hlt]) (ha _ _ _ (fQ hlt) hav) h
     ·
      exact h.elim
  ·
   exact h.elim
 ·
  exact h.elim
theorem aKG {v:Value}{sz:Nat}{xs:List (List PV)} (h:RV g.I w v (.list sz xs)) (i:Nat) (row:List PV) (hr:xs[i]?=some row):∃ b o cap,v=.slice (some ⟨b,o,none⟩) xs.length cap∧oP g w (.pointer (some ⟨b,o+i*sz,none⟩)) (.eptr row 0):=by
 cases h with
 | empty A cap sz=>simp at hr
 | row b o cap sz xs vs hs hcap hc hv =>
  refine ⟨b,o,cap,rfl,?_⟩
  have hi:=(cD.1 hr).1
  have hl:=hs row (dQ hr)
  have:=oP.eptr (g:=g) (w:=w) b (o+i*sz) 0 row (fun j=>vs (i*sz+j)) (fun j hj=>?_) (fun j p hp=>hv i j row p hr hp)
  ·
   exact this
  ·
   have hle:(i+1)*sz≤xs.length*sz:=kC _ hi
   rw [jD] at hle
   have:=hc (i*sz+j) (by omega)
   rwa [← mM] at this
theorem aMY {t:TypeId}{x ix:Operand} (hi:xL c g w σ) (hf:RFr g w a.tmps fr) (h:eL P ⟨dst,.indexAddr t x ix,ty,pos,after,guard⟩ fr.ev σ K):yK P c ⟨dst,.indexAddr t x ix,ty,pos,after,guard⟩ a.eval w g K:=by
 simp only [eL] at h
 split at h
 ·
  rename_i e sz bytes ht
  obtain ⟨hu,i,z,hin,_,_,_,hsz,_⟩:=aB9 ht
  have hx:=iX hf x
  have hix:=iX hf ix
  split at h
  ·
   rename_i k n hix0
   rw [hix0] at hix
   generalize hvix:a.eval ix=vix at hix
   cases hix with
   | c hix =>
    cases hix
    have hrun:∀ b o (len cap:Nat),0≤n→n<len→(Instr.indexAt t (.slice (some ⟨b,o,none⟩) len cap) (.int k n)).run P w=.ok (.pointer (some ⟨b,o+n.toNat*sz,none⟩)) w:=by
     intro b o len cap h0 h1
     simp [Instr.indexAt,asIntOf,run_underlying hu,h0,h1,sizeOf,typeInfo,hin,hsz,aBx]
    split at h
    ·
     rename_i sz' xs hx0
     rw [hx0] at hx
     obtain ⟨rfl,h0,h1,h⟩:=h
     have hlt:n.toNat<xs.length:=by omega
     ·
      obtain ⟨b,o,cap,hv,hr⟩:=aKG hx.c_inv n.toNat _ (aT hlt)
      exact .same hi (by simp only [execOp,hvix,hv,Sem.run_bind,hrun b o xs.length cap h0 h1,Result.andThen_ok,Sem.run_pure]) hr (h _ (aT hlt))
    ·
     rename_i t0 sz' xs hx0
     rw [hx0] at hx
     obtain ⟨rfl,h0,h1,h⟩:=h
     have hlt:n.toNat<xs.length:=by omega
     ·
      obtain ⟨b,o,cap,hv,hr⟩:=aKG hx.own_inv.rv n.toNat _ (aT hlt)
      exact .same hi (by simp only [execOp,hvix,hv,Sem.run_bind,hrun b o xs.length cap h0 h1,Result.andThen_ok,Sem.run_pure]) hr (h _ (aT hlt))
    ·
     rename_i l hx0
     rw [hx0] at hx
     obtain ⟨rfl,h0,h1,h⟩:=h
     have hlt:n.toNat<l.length:=by omega
     generalize hvx:a.eval x=vx at hx
     cases hx with
     | ptrs b o cap _ hcap hc =>
      obtain ⟨hI,bk,hb,hcl⟩:=hc n.toNat _ (aT hlt)
      refine .same hi (v:=.pointer (some ⟨b,o+n.toNat*1,none⟩)) (by simp only [execOp,hvix,hvx,Sem.run_bind,hrun b o l.length cap h0 h1,Result.andThen_ok,Sem.run_pure]) ?_ (h _ (aT hlt))
      rw [Nat.mul_one]
      exact .pptr b _ bk _ hI hb hcl
    ·
     exact h.elim
  ·
   exact h.elim
 ·
  exact h.elim
theorem aSg {t:TypeId}{x ix:Operand} (hi:xL c g w σ) (hf:RFr g w a.tmps fr) (h:eL P ⟨dst,.index t x ix,ty,pos,after,guard⟩ fr.ev σ K):yK P c ⟨dst,.index t x ix,ty,pos,after,guard⟩ a.eval w g K:=by
 simp only [eL] at h
 obtain ⟨h2,h⟩:=h
 have hx:=iX hf x
 have hix:=iX hf ix
 split at h
 ·
  rename_i s k n hx0 hix0
  rw [hx0] at hx
  rw [hix0] at hix
  generalize hvix:a.eval ix=vix at hix
  generalize hvx:a.eval x=vx at hx
  obtain ⟨h0,h1,h⟩:=h
  cases hix with
  | c hix =>
   cases hix
   cases hx with
   | c hx =>
    cases hx
    have hlt:n.toNat<s.length:=by omega
    have hb:(⟨s.toArray⟩:ByteArray)[n.toNat]?=some s[n.toNat]:=by
     rw [getElem?_pos (⟨s.toArray⟩:ByteArray) n.toNat (by simpa [ByteArray.size] using hlt)]
     rfl
    exact .same hi (v:=.int .u8 (s[n.toNat]).toNat) (by simp [execOp,hvix,hvx,Instr.index,asIntOf,run_underlying (aJy h2),h0,hb]) (.c (.int _ _)) (h _ (aT hlt))
 ·
  exact h.elim
theorem aPQ {x:Operand}{i:Nat} (hi:xL c g w σ) (hf:RFr g w a.tmps fr) (h:eL P ⟨dst,.extract x i,ty,pos,after,guard⟩ fr.ev σ K):yK P c ⟨dst,.extract x i,ty,pos,after,guard⟩ a.eval w g K:=by
 simp only [eL] at h
 have hx:=iX hf x
 split at h
 ·
  rename_i cs hx0
  rw [hx0] at hx
  generalize hvx:a.eval x=vx at hx
  cases hx with
  | tup vs _ hl ha =>
   split at h
   ·
    rename_i av hav
    have hlt:i<vs.size:=by rw [hl];exact (cD.1 hav).1
    exact .same hi (v:=vs[i]) (by simp [execOp,hvx,Instr.extract,hlt]) (ha _ _ _ (fQ hlt) hav) h
   ·
    exact h.elim
 ·
  exact h.elim
end
section
variable {P:Program}{c:Ctx}{g:G}{w:World}{σ:St}{K:Option (Nat→Bool)→AV→St→Prop}{a:Act}{fr:Fr}{dst:Option Tmp}{ty:TypeId}{pos:String}{after:Array Edge}{guard:Option (Nat × Bool)}
theorem aCc {t:TypeId} (A:Option Addr) (n cap:Nat) (h3:kF P t=3):(Builtin.len_ #[t] ty #[.slice A n cap]).run P w=.ok (.int .i64 n) w:=by
 obtain ⟨e,he⟩:=aNa h3
 simp [Builtin.len_,run_underlying he,goInt]
theorem aNp {t:TypeId}{x:AV}{vx:Value}{Q:AV→Prop} (hx:oP g w vx x) (h:aG6 (kF P t) x Q) :
  ∃ v av,(Builtin.len_ #[t] ty #[vx]).run P w=.ok v w∧oP g w v av∧Q av:=by
 unfold aG6 at h
 split at h
 ·
  obtain ⟨h3,h⟩:=h
  have hx:=hx.c_inv
  cases hx with
  | empty A cap sz=>exact ⟨_,_,aCc A 0 cap h3,.c (.int _ _),h⟩
  | row b o cap sz xs vs hs hcap hc hv=>exact ⟨_,_,aCc _ _ cap h3,.c (.int _ _),h⟩
 ·
  obtain ⟨h3,h⟩:=h
  have hx:=hx.own_inv
  obtain ⟨_,_,e,cells,ho,_⟩:=hx
  rcases ho.2 with ⟨rfl,hn⟩ | ⟨b,cap,cur,rfl,_⟩
  ·
   rw [hn] at h
   exact ⟨_,_,aCc .none 0 0 h3,.c (.int _ _),h⟩
  ·
   exact ⟨_,_,aCc _ _ cap h3,.c (.int _ _),h⟩
 ·
  obtain ⟨h3,h⟩:=h
  cases hx
  exact ⟨_,_,aCc .none 0 0 h3,.c (.int _ _),h⟩
 ·
  rename_i s
  obtain ⟨h2,h⟩:=h
  have hx:=hx.c_inv
  cases hx with
  | str s =>
   have hu:=aJy h2
   exact ⟨.int .i64 s.length,_,by simp [Builtin.len_,run_underlying hu,goInt,aDt],.c (.int _ _),h⟩
 ·
  obtain ⟨h3,h⟩:=h
  cases hx with
  | ptrs b o cap l hcap hc=>exact ⟨_,_,aCc _ _ cap h3,.c (.int _ _),h⟩
 ·
  exact h.elim
theorem aB3 (b:Builtin) (args:Array Operand) (argTypes:Array TypeId) (ev:Operand→Value) :
  ∃ cs,execOp ev ⟨dst,.call { callee:=.builtin b,args,argTypes },ty,pos,after,guard⟩=builtin b argTypes ty cs (args.map ev):=by
 refine ⟨args.map fun x=>match x with | .const _=>true | _=>false,?_⟩
 simp only [execOp,resolve,pure_bind,invoke]
 rfl
theorem aOK {α:Type}{xs:Array α}{x y:α} (h:xs.toList=[x,y]):xs=#[x,y]:=by cases xs;simp_all
theorem aSP {α:Type}{xs:Array α}{x:α} (h:xs.toList=[x]):xs=#[x]:=by cases xs;simp_all
theorem aUj {args:Array Operand}{argTypes:Array TypeId} (hi:xL c g w σ) (hf:RFr g w a.tmps fr) (h:eL P ⟨dst,.call { callee:=.builtin .len,args,argTypes },ty,pos,after,guard⟩ fr.ev σ K) :
  yK P c ⟨dst,.call { callee:=.builtin .len,args,argTypes },ty,pos,after,guard⟩ a.eval w g K:=by
 simp only [eL] at h
 split at h
 ·
  rename_i x t hx ht
  obtain rfl:=aSP hx
  obtain rfl:=aSP ht
  obtain ⟨v,av,hr,hv,hk⟩:=aNp (ty:=ty) (iX hf x) h
  refine .same hi ?_ hv hk
  obtain ⟨cs,hcs⟩:=aB3 (dst:=dst) (ty:=ty) (pos:=pos) (after:=after) (guard:=guard) .len #[x] #[t] a.eval
  rw [hcs]
  simp only [builtin,Sem.run_bind,List.map_toArray,nI,List.map_nil,hr,Result.andThen_ok,Sem.run_pure]
 ·
  exact h.elim
theorem aUk {args:Array Operand}{argTypes:Array TypeId} (hi:xL c g w σ) (hf:RFr g w a.tmps fr) (h:eL P ⟨dst,.call { callee:=.builtin .max,args,argTypes },ty,pos,after,guard⟩ fr.ev σ K) :
  yK P c ⟨dst,.call { callee:=.builtin .max,args,argTypes },ty,pos,after,guard⟩ a.eval w g K:=by
 simp only [eL] at h
 split at h
 ·
  rename_i x y hx
  obtain rfl:=aOK hx
  have hvx:=iX hf x
  have hvy:=iX hf y
  split at h
  ·
   rename_i k n k' m e1 e2
   rw [e1] at hvx
   rw [e2] at hvy
   generalize h1:a.eval x=vx at hvx
   generalize h2:a.eval y=vy at hvy
   cases hvx.c_inv
   cases hvy.c_inv
   refine .same hi (v:=.int k (if m > n then m else n)) ?_ (.c (.int _ _)) h
   obtain ⟨cs,hcs⟩:=aB3 (dst:=dst) (ty:=ty) (pos:=pos) (after:=after) (guard:=guard) .max #[x,y] argTypes a.eval
   rw [hcs]
   simp [builtin,h1,h2,Builtin.max_,Builtin.max2]
  ·
   exact h.elim
 ·
  exact h.elim
theorem aUl {args:Array Operand}{argTypes:Array TypeId} (hi:xL c g w σ) (hf:RFr g w a.tmps fr) (h:eL P ⟨dst,.call { callee:=.builtin .min,args,argTypes },ty,pos,after,guard⟩ fr.ev σ K) :
  yK P c ⟨dst,.call { callee:=.builtin .min,args,argTypes },ty,pos,after,guard⟩ a.eval w g K:=by
 simp only [eL] at h
 split at h
 ·
  rename_i x y hx
  obtain rfl:=aOK hx
  have hvx:=iX hf x
  have hvy:=iX hf y
  split at h
  ·
   rename_i k n k' m e1 e2
   rw [e1] at hvx
   rw [e2] at hvy
   generalize h1:a.eval x=vx at hvx
   generalize h2:a.eval y=vy at hvy
   cases hvx.c_inv
   cases hvy.c_inv
   refine .same hi (v:=.int k (if m<n then m else n)) ?_ (.c (.int _ _)) h
   obtain ⟨cs,hcs⟩:=aB3 (dst:=dst) (ty:=ty) (pos:=pos) (after:=after) (guard:=guard) .min #[x,y] argTypes a.eval
   rw [hcs]
   simp [builtin,h1,h2,Builtin.min_,Builtin.min2]
  ·
   exact h.elim
 ·
  exact h.elim
theorem aHS (d:Tmp):vS (some d) (yD (some d))=true:=by simp [vS,yD]
theorem aRn {args:Array Operand}{argTypes:Array TypeId} (hd:dst.isSome=true) (hi:xL c g w σ) (hf:RFr g w a.tmps fr) (h:eL P ⟨dst,.call { callee:=.builtin .append,args,argTypes },ty,pos,after,guard⟩ fr.ev σ K) :
  yK P c ⟨dst,.call { callee:=.builtin .append,args,argTypes },ty,pos,after,guard⟩ a.eval w g K:=by
 simp only [eL] at h
 obtain ⟨d,rfl⟩:=mQ.1 hd
 split at h
 ·
  rename_i s x t tx hargs hty
  obtain rfl:=aOK hargs
  obtain rfl:=aOK hty
  have hs:=iX hf s
  have hx:=iX hf x
  unfold xB at h
  split at h
  ·
   rename_i e sz bytes hts
   obtain ⟨hb0,h⟩:=h
   have common:∀ (f:Nat→Bool) (xs ys:List (List PV)) (news:List Value) (d':TypeDesc),f (yD (some d))=true→P.underlying tx=some d'→(d'=.string∨∃ e1,d'=.slice e1) →
     ((a.eval s=.slice none 0 0∧xs=[])∨∃ t0,f t0=true∧aNj g w (a.eval s) t0 sz xs)→Src P w sz (a.eval x) ys.length news →
     (∀ (i j:Nat) (x:List PV) (p:PV),ys[i]?=some x→x[j]?=some p→∃ u,news[i*sz+j]?=some u∧RV g.I w u p)→(∀ y∈ys,y.length=sz)→(xs.length+ys.length)*bytes≤140737488355328 →
     K (some f) (.own (yD (some d)) sz (xs++ys)) (σ.dem f)→yK P c ⟨some d,.call { callee:=.builtin .append,args:=#[s,x],argTypes:=#[t,tx] },ty,pos,after,guard⟩ a.eval w g K:=by
    intro f xs ys news d' hfT hu hd' hv hsrc hn hrows hbytes hk
    have h63:xs.length+ys.length≤9223372036854775807:=by
     have:=Nat.le_mul_of_pos_right (xs.length+ys.length) hb0
     omega
    obtain ⟨v',w',g',hr,hi',st,hrv⟩:=aK1 hi f (yD (some d)) hfT (ty:=ty) hts hu hd' hv hsrc hn hrows hbytes h63
    refine ⟨_,v',w',_,_,_,g',?_,.inl rfl,hk,hi',st,hrv⟩
    obtain ⟨cs,hcs⟩:=aB3 (dst:=some d) (ty:=ty) (pos:=pos) (after:=after) (guard:=guard) .append #[s,x] #[t,tx] a.eval
    rw [hcs]
    simp only [builtin,Sem.run_bind,List.map_toArray,nI,List.map_nil,hr,Result.andThen_ok,Sem.run_pure]
   have src:∀ (f:Nat→Bool) (xs:List (List PV)),f (yD (some d))=true→((a.eval s=.slice none 0 0∧xs=[])∨∃ t0,f t0=true∧aNj g w (a.eval s) t0 sz xs) →
     (match fr.ev x with
      | .c (.list sz' ys)=>sz'=sz∧kF P tx=3∧(∀ y∈ys,y.length=sz)∧(xs.length+ys.length)*bytes≤140737488355328∧K (some f) (.own (yD (some d)) sz (xs++ys)) (σ.dem f)
      | .own _ sz' ys=>sz'=sz∧kF P tx=3∧(∀ y∈ys,y.length=sz)∧(xs.length+ys.length)*bytes≤140737488355328∧K (some f) (.own (yD (some d)) sz (xs++ys)) (σ.dem f)
      | .nil=>kF P tx=3∧xs.length*bytes≤140737488355328∧K (some f) (.own (yD (some d)) sz xs) (σ.dem f)
      | .c (.str b)=>sz=1∧kF P tx=2∧(xs.length+b.length)*bytes≤140737488355328∧K (some f) (.own (yD (some d)) 1 (xs++b.map iT)) (σ.dem f)
      | _=>False)→yK P c ⟨some d,.call { callee:=.builtin .append,args:=#[s,x],argTypes:=#[t,tx] },ty,pos,after,guard⟩ a.eval w g K:=by
    intro f xs hfT hv h
    split at h
    ·
     rename_i sz' ys hx0
     rw [hx0] at hx
     obtain ⟨rfl,h3,hrows,hbytes,hk⟩:=h
     obtain ⟨e1,he⟩:=aNa h3
     obtain ⟨news,hsrc,hn⟩:=Src.list (P:=P) hx.c_inv
     exact common f xs ys news _ hfT he (.inr ⟨e1,rfl⟩) hv hsrc hn hrows hbytes hk
    ·
     rename_i t1 sz' ys hx0
     rw [hx0] at hx
     obtain ⟨rfl,h3,hrows,hbytes,hk⟩:=h
     obtain ⟨e1,he⟩:=aNa h3
     obtain ⟨news,hsrc,hn⟩:=Src.list (P:=P) hx.own_inv.rv
     exact common f xs ys news _ hfT he (.inr ⟨e1,rfl⟩) hv hsrc hn hrows hbytes hk
    ·
     rename_i hx0
     rw [hx0] at hx
     obtain ⟨h3,hbytes,hk⟩:=h
     obtain ⟨e1,he⟩:=aNa h3
     have hx':RV g.I w (a.eval x) (.list sz []):=by
      generalize a.eval x=vx at hx
      cases hx
      exact .empty .none 0 sz
     obtain ⟨news,hsrc,hn⟩:=Src.list (P:=P) hx'
     exact common f xs [] news _ hfT he (.inr ⟨e1,rfl⟩) hv hsrc hn (by simp) (by simpa using hbytes) (by simpa using hk)
    ·
     rename_i b hx0
     rw [hx0] at hx
     obtain ⟨rfl,h2,hbytes,hk⟩:=h
     have hxs:=hx.c_inv
     generalize hvx:a.eval x=vx at hxs
     cases hxs
     obtain ⟨news,hsrc,hn⟩:=Src.str (P:=P) (w:=w) (I:=g.I) b
     rw [← hvx] at hsrc
     have hl:(b.map iT).length=b.length:=by simp
     exact common f xs (b.map iT) news _ hfT (aJy h2) (.inl rfl) hv (by rw [hl];exact hsrc) hn (by intro y hy;obtain ⟨z,_,rfl⟩:=List.mem_map.1 hy;rfl) (by rw [hl];exact hbytes) hk
    ·
     exact h.elim
   split at h
   ·
    rename_i hs0
    rw [hs0] at hs
    refine src (vS (some d)) [] (aHS d) (.inl ⟨?_,rfl⟩) ?_
    ·
     generalize a.eval s=vs at hs
     cases hs
     rfl
    ·
     revert h
     simp only [sT,lH,kY,Nat.zero_mul]
     exact id
   ·
    rename_i t0 sz' xs hs0
    rw [hs0] at hs
    obtain ⟨rfl,h⟩:=h
    exact src (fun t=>vS (some d) t||t==t0) xs (by simp [aHS]) (.inr ⟨t0,by simp,hs.own_inv⟩) h
   ·
    exact h.elim
  ·
   exact h.elim
 ·
  exact h.elim
theorem aAO {k:IntKind}{n:Int}{y:Nat}{code:BoundsCode} (h0:0≤n) (h1:n≤y):(Instr.sliceBound (.int k n) y code).run P w=.ok n.toNat w:=by
 simp [Instr.sliceBound,asIntOf,h0,h1]
theorem aSh {t:TypeId}{x:Operand}{lo hi':Option Operand} (hi:xL c g w σ) (hf:RFr g w a.tmps fr) (h:eL P ⟨dst,.slice t x lo hi' .none,ty,pos,after,guard⟩ fr.ev σ K) :
  yK P c ⟨dst,.slice t x lo hi' .none,ty,pos,after,guard⟩ a.eval w g K:=by
 simp only [eL] at h
 obtain ⟨h7,h⟩:=h
 have hx:=iX hf x
 have bnd:∀ (isS:Bool) (len cap:Nat) (Q:Nat→Nat→Prop),len≤cap →
   tS (lo.map fr.ev) (hi'.map fr.ev) len Q→∃ l h,l≤h∧h≤len∧(Instr.sliceBounds isS len cap (lo.map a.eval) (hi'.map a.eval) .none).run P w=.ok (l,h,cap) w∧Q l h:=by
  intro isS len cap Q hlc hq
  unfold tS at hq
  cases lo with
  | none =>
   cases hi' with
   | none=>exact ⟨0,len,Nat.zero_le _,iV _,by simp [Instr.sliceBounds],hq⟩
   | some hh =>
    simp only [sU,gX] at hq ⊢
    split at hq
    all_goals try (simp_all;done)
    rename_i k n e1 e2
    have hv:=iX hf hh
    simp only [eM] at e2
    rw [e2] at hv
    generalize hvh:a.eval hh=vh at hv
    cases hv.c_inv
    obtain ⟨h0,h1,hq⟩:=hq
    exact ⟨0,n.toNat,Nat.zero_le _,by omega,by simp [Instr.sliceBounds,hvh,aAO h0 (show n≤(cap:Int) by omega)],hq⟩
  | some ll =>
   cases hi' with
   | none =>
    simp only [sU,gX] at hq ⊢
    split at hq
    all_goals try (simp_all;done)
    rename_i k n e1 e2
    have hv:=iX hf ll
    simp only [eM] at e1
    rw [e1] at hv
    generalize hvl:a.eval ll=vl at hv
    cases hv.c_inv
    obtain ⟨h0,h1,hq⟩:=hq
    exact ⟨n.toNat,len,by omega,iV _,by simp [Instr.sliceBounds,hvl,aAO h0 h1],hq⟩
   | some hh =>
    simp only [gX] at hq ⊢
    split at hq
    all_goals try (simp_all;done)
    rename_i k n k' m e1 e2
    have hv:=iX hf ll
    have hv2:=iX hf hh
    simp only [eM] at e1 e2
    rw [e1] at hv
    rw [e2] at hv2
    generalize hvl:a.eval ll=vl at hv
    generalize hvh:a.eval hh=vh at hv2
    cases hv.c_inv
    cases hv2.c_inv
    obtain ⟨h0,h1,h2,hq⟩:=hq
    exact ⟨n.toNat,m.toNat,by omega,by omega,by simp [Instr.sliceBounds,hvl,hvh,aAO (show (0:Int)≤m by omega) (show m≤(cap:Int) by omega),aAO h0 (show n≤((m.toNat:Nat):Int) by omega)],hq⟩
 have slc:∀ (sz:Nat) (xs:List (List PV)) (e:TypeId) (bytes:Nat),nJ P t=some (e,sz,bytes)→RV g.I w (a.eval x) (.list sz xs) →
   tS (lo.map fr.ev) (hi'.map fr.ev) xs.length (fun l h=>K .none (.c (.list sz ((xs.take h).drop l))) σ)→yK P c ⟨dst,.slice t x lo hi' .none,ty,pos,after,guard⟩ a.eval w g K:=by
  intro sz xs e bytes hts hv hk
  obtain ⟨hu,i,z,hin,_,_,_,hsz,_⟩:=aB9 hts
  have hsize:(sizeOf e).run P w=.ok sz w:=by simp [sizeOf,typeInfo,hin,hsz]
  generalize hvx:a.eval x=vx at hv
  cases hv with
  | empty A cap sz =>
   obtain ⟨l,h,hlh,hhl,hr,hq⟩:=bnd true 0 cap (fun l h=>K .none (.c (.list sz ((([]:List (List PV)).take h).drop l))) σ) (Nat.zero_le _) hk
   obtain rfl:h=0:=by simpa using hhl
   obtain rfl:l=0:=by omega
   refine .same hi (v:=.slice (if cap=0 then A else A.map (·.add (0*sz))) (0 - 0) (cap - 0)) ?_ (.c (.empty _ _ sz)) (by simpa using hq)
   simp only [execOp,hvx,Instr.sliceAt,Sem.run_bind,run_underlying hu,Result.andThen_ok,sU,Instr.slice,hr,hsize,Sem.run_pure]
  | row b o cap sz xs vs hs hcap hc hvv =>
   obtain ⟨l,h,hlh,hhl,hr,hq⟩:=bnd true xs.length cap (fun l h=>K .none (.c (.list sz ((xs.take h).drop l))) σ) hcap hk
   have hrun:(execOp a.eval ⟨dst,.slice t x lo hi' .none,ty,pos,after,guard⟩).run P w=.ok (.value (.slice (if cap=l then some ⟨b,o,none⟩ else (some ⟨b,o,none⟩:Option Addr).map (·.add (l*sz))) (h - l) (cap - l))) w:=by
    simp only [execOp,hvx,Instr.sliceAt,Sem.run_bind,run_underlying hu,Result.andThen_ok,sU,Instr.slice,hr,hsize,Sem.run_pure]
   have hlen:((xs.take h).drop l).length=h - l:=by simp;omega
   refine .same hi hrun (.c ?_) hq
   by_cases hcl:cap=l
   ·
    have h0:h - l=0:=by omega
    have:(xs.take h).drop l=[]:=eS (by omega)
    rw [this,h0]
    exact .empty _ _ sz
   ·
    rw [bE hcl,← hlen]
    simp only [gX,aBx]
    refine .row b (o+l*sz) (cap - l) sz _ (fun j=>vs (l*sz+j)) (fun y hy=>hs y (lL (mW hy))) (by omega) (fun j hj=>?_) (fun i' j y p hy hp=>?_)
    ·
     rw [hlen] at hj
     have h1:l*sz+(h - l)*sz=h*sz:=by rw [← jD];congr 1;omega
     have h2:h*sz≤xs.length*sz:=kC _ hhl
     have:=hc (l*sz+j) (by omega)
     rwa [← mM] at this
    ·
     rw [iN,pV] at hy
     split at hy
     ·
      have:=hvv (l+i') j y p hy hp
      rwa [jD,mM] at this
     ·
      cases hy
 unfold aC7 at h
 split at h
 ·
  rename_i s hx0
  rw [hx0] at hx
  obtain ⟨h2,h⟩:=h
  have hu:=aJy h2
  have hxs:=hx.c_inv
  generalize hvx:a.eval x=vx at hxs
  cases hxs
  obtain ⟨l,h',hlh,hhl,hr,hq⟩:=bnd false s.length s.length (fun l h=>K .none (.c (.str ((s.take h).drop l))) σ) (iV _) h
  refine .same hi (v:=.string ⟨((s.take h').drop l).toArray⟩) ?_ (.c (.str _)) hq
  have hex:(⟨s.toArray⟩:ByteArray).extract l h'=⟨((s.take h').drop l).toArray⟩:=by
   apply ByteArray.ext
   simp [ByteArray.data_extract,tT]
  simp only [execOp,hvx,Instr.sliceAt,Sem.run_bind,run_underlying hu,Result.andThen_ok,sU,Instr.slice,aDt,hr,hex,Sem.run_pure,Option.isSome_none,kE,eU]
 ·
  rename_i sz xs hx0
  rw [hx0] at hx
  split at h
  ·
   rename_i e n bytes hts
   obtain ⟨rfl,h⟩:=h
   exact slc _ xs e bytes hts hx.c_inv h
  ·
   exact h.elim
 ·
  rename_i t0 sz xs hx0
  rw [hx0] at hx
  split at h
  ·
   rename_i e n bytes hts
   obtain ⟨rfl,h⟩:=h
   exact slc _ xs e bytes hts hx.own_inv.rv h
  ·
   exact h.elim
 ·
  exact h.elim
theorem aL8 {o:Oper} (hd:o.dst.isSome=true∨∃ t x y,o.op=.store t x y) (hi:xL c g w σ) (hf:RFr g w a.tmps fr) (h:eL P o fr.ev σ K):yK P c o a.eval w g K:=by
 obtain ⟨dst,op,ty,pos,after,guard⟩:=o
 cases op
 case move x=>exact aTE hi hf h
 case assign x=>exact aRo hi hf h
 case pick x p q=>exact aTF hi hf h
 case alloc e=>exact aSc hi hf h
 case box e x=>exact aUi hi hf h
 case build t parts=>exact aSe hi hf h
 case buildSlice t len parts=>exact aLu hi hf h (hd.resolve_right (by rintro ⟨_,_,_,h⟩;cases h))
 case load t x=>exact aTD hi hf h
 case store t x y=>exact aSi hi hf h
 case nilCheck x=>exact aOi hi hf h
 case binOp op t x y t2=>exact aSd hi hf h
 case unOp op t x=>exact aTG hi hf h
 case convert s d x=>exact aPP hi hf h
 case makeFunc fn first captured=>exact aOh hi hf h
 case slice t x lo hi' mx =>
  cases mx with
  | none=>exact aSh hi hf h
  | some m=>exact (by simp only [eL] at h)
 case fieldAddr t x f=>exact aMX hi hf h
 case field t x f=>exact aSf hi hf h
 case indexAddr t x ix=>exact aMY hi hf h
 case index t x ix=>exact aSg hi hf h
 case extract x i=>exact aPQ hi hf h
 case call c =>
  obtain ⟨callee,args,argTypes⟩:=c
  cases callee with
  | builtin b =>
   cases b
   case len=>exact aUj hi hf h
   case append=>exact aRn (hd.resolve_right (by rintro ⟨_,_,_,h⟩;cases h)) hi hf h
   case max=>exact aUk hi hf h
   case min=>exact aUl hi hf h
   all_goals exact (by simp only [eL] at h)
  | _=>exact (by simp only [eL] at h)
 all_goals exact (by simp only [eL] at h)
end
theorem aHR {α:Type}{sz:Nat}:∀ {xs:List (List α)},(∀ x∈xs,x.length=sz)→xs.flatten.length=xs.length*sz
 | [],_=>by simp
 | x :: l,hl=>by
  rw [List.flatten_cons,jC,aHR (fun y hy=>hl y (by simp [hy])),hl x (by simp),fU,jD]
  omega
section
variable {P:Program}{w:World}{g:G}
end
def axv (P:Program) (o:Oper) (ev:Operand→AV) (v:AV):Prop:=False
section
variable {P:Program}{c:Ctx}{g:G}{w:World}{σ:St}{K:Option (Nat→Bool)→AV→St→Prop}{a:Act}{fr:Fr}{dst:Option Tmp}{ty:TypeId}{pos:String}{after:Array Edge}{guard:Option (Nat × Bool)}
end
theorem aPm {P:Program}{c:Ctx}{g:G}{w:World}{σ:St}{K:Option (Nat→Bool)→AV→St→Prop}{a:Act}{fr:Fr}{o:Oper}{v:AV} (hi:xL c g w σ) (hf:RFr g w a.tmps fr) (h:axv P o fr.ev v) (hk:K .none v σ):yK P c o a.eval w g K:=False.elim h
def avv (P:Program) (o:Oper) (ev:Operand→AV) (v:AV):Prop:=False
def axg (P:Program) (o:Oper) (ev:Operand→AV) (σ:St) (dm:Option (Nat→Bool)) (v:AV) (σ':St):Prop:=False
section
variable {P:Program}{c:Ctx}{g:G}{w:World}{σ:St}{K:Option (Nat→Bool)→AV→St→Prop}{a:Act}{fr:Fr}{dst:Option Tmp}{ty:TypeId}{pos:String}{after:Array Edge}{guard:Option (Nat × Bool)}
theorem aPh {o:Oper}{v:AV} (hi:xL c g w σ) (hf:RFr g w a.tmps fr) (h:avv P o fr.ev v) (hk:K .none v σ):yK P c o a.eval w g K:=False.elim h
theorem Src.mrow {v:Value}{t sz:Nat}{ys:List (List PV)} (h:aQc g w v t sz ys):∃ news,Src P w sz v ys.length news∧∀ (i j:Nat) (x:List PV) (p:PV),ys[i]?=some x→x[j]?=some p→∃ u,news[i*sz+j]?=some u∧RV g.I w u p:=by
 obtain ⟨h0,hs,e,cells,ho,hv,hb⟩:=h
 rcases ho.2 with ⟨rfl,hn⟩ | ⟨b,cap,cur,rfl,_,hg,hnc,_,hcs,htake⟩
 ·
  have hy:ys=[]:=eS hn
  subst hy
  refine ⟨[],⟨fun W=>rfl,?_,?_,by simp,by simp⟩,by simp⟩ <;> simp [Builtin.firstCells,loadCells,loadCellsFrom]
 ·
  have hl:cells.length=ys.length*sz:=ho.1
  have hcell:∀ j u,cells[j]?=some u→w.cell? ((⟨b,0,none⟩:Addr).add j)=some u:=ho.cells (g:=b) rfl
  refine ⟨cells,⟨fun W=>rfl,run_firstCells_some w sz _ _ _ _ _ hl hcell,run_firstCells_some w.drew sz _ _ _ _ _ hl (by simpa using hcell),hl,fun u hu=>?_⟩,hv⟩
  obtain ⟨k,hk⟩:=kB hu
  have hkl:=(cD.1 hk).1
  rw [hl] at hkl
  have h1:k / sz<ys.length:=(qN h0).2 hkl
  have hlx:=hs _ (dB h1)
  have h2:k % sz<(ys[k / sz]).length:=by rw [hlx];exact Nat.mod_lt _ h0
  obtain ⟨u',hu',hr⟩:=hv (k / sz) (k % sz) _ _ (aT h1) (aT h2)
  rw [Nat.div_add_mod',hk] at hu'
  cases hu'
  exact hr.one
theorem aIT {α:Type}{sz:Nat}:∀ {xs:List (List α)},(∀ x∈xs,x.length=sz)→∀ {i j:Nat}{x:List α}{p:α},xs[i]?=some x→x[j]?=some p→xs.flatten[i*sz+j]?=some p
 | [],_,i,j,x,p,h,_=>by simp at h
 | y :: l,hl,i,j,x,p,h,hp=>by
  have hy:=hl y (by simp)
  rw [List.flatten_cons]
  cases i with
  | zero =>
   simp at h
   subst h
   rw [Nat.zero_mul,kY,dD (cD.1 hp).1]
   exact hp
  | succ i =>
   simp at h
   rw [eB (by rw [hy,jD];omega),hy,jD,show i*sz+1*sz+j - sz=i*sz+j by omega]
   exact aIT (fun z hz=>hl z (by simp [hz])) h hp
theorem Src.view (hi:xL c g w σ) {v:Value}{id off m sz:Nat}{cs:List AV}{ys:List (List PV)} (h:oP g w v (.view id off m)) (hs:σ[id]?=some cs) (hl:ys.length=m) (hy:∀ y∈ys,y.length=sz) (he:(cs.drop off).take (m*sz)=ys.flatten.map AV.c) :
  ∃ news,Src P w sz v ys.length news∧∀ (i j:Nat) (x:List PV) (p:PV),ys[i]?=some x→x[j]?=some p→∃ u,news[i*sz+j]?=some u∧RV g.I w u p:=by
 cases h with
 | view _ _ _ b cap hb hn =>
  obtain ⟨cur,e,hh,hc⟩:=hi.store id cs b hs hb
  have hcl:cur.size=cs.length:=hc.1
  have hfl:ys.flatten.length=ys.length*sz:=aHR hy
  have hlen:((cs.drop off).take (m*sz)).length=m*sz:=by rw [he,iI,hfl,hl]
  have hsub:=hc.sub off (m*sz)
  rw [he] at hsub
  have hsz:(cur.extract off (off+m*sz)).size=m*sz:=by rw [hsub.1,iI,hfl,hl]
  have hget:∀ (j:Nat) (u:Value),(cur.extract off (off+m*sz)).toList[j]?=some u→∃ p:PV,ys.flatten[j]?=some p∧RV g.I w u p:=by
   intro j u hu
   have hj:=(cD.1 hu).1
   rw [jT,hsz,← hl,← hfl] at hj
   refine ⟨ys.flatten[j],aT hj,?_⟩
   exact (hsub.2 j u (.c ys.flatten[j]) (by rw [eF] at hu;exact hu) (by rw [cJ,aT hj];rfl)).c_inv
  have hcell:∀ (j:Nat) (u:Value),(cur.extract off (off+m*sz)).toList[j]?=some u→w.cell? ((⟨b,off,none⟩:Addr).add j)=some u:=by
   intro j u hu
   rw [aBx,aGh hh]
   rw [eF,Array.getElem?_extract] at hu
   split at hu
   ·
    exact hu
   ·
    cases hu
  have hl2:(cur.extract off (off+m*sz)).toList.length=ys.length*sz:=by rw [jT,hsz,hl]
  refine ⟨_,⟨fun W=>by simp [Builtin.lenOf,hl],?_,?_,hl2,fun u hu=>?_⟩,fun i j x p hx hp=>?_⟩
  ·
   exact run_firstCells_some w sz _ _ _ _ _ hl2 hcell
  ·
   exact run_firstCells_some w.drew sz _ _ _ _ _ hl2 (by simpa using hcell)
  ·
   obtain ⟨k,hk⟩:=kB hu
   obtain ⟨p,_,hr⟩:=hget k u hk
   exact hr.one
  ·
   have hp':=aIT hy hx hp
   have hj:=(cD.1 hp').1
   have hj2:i*sz+j<(cur.extract off (off+m*sz)).toList.length:=by rw [hl2,← hfl];exact hj
   obtain ⟨q,hq,hr⟩:=hget (i*sz+j) _ (aT hj2)
   rw [hp'] at hq
   cases hq
   exact ⟨_,aT hj2,hr⟩
theorem aPk {o:Oper}{dm:Option (Nat→Bool)}{v:AV}{σ':St} (hi:xL c g w σ) (hf:RFr g w a.tmps fr) (h:axg P o fr.ev σ dm v σ') (hk:K dm v σ'):yK P c o a.eval w g K:=False.elim h
end
def aEB (P:Program) (o:Oper) (ev:Operand→AV) (σ:St) (K:Option (Nat→Bool)→AV→St→Prop):Prop :=
 eL P o ev σ K∨(∃ v,axv P o ev v∧K .none v σ)∨(∃ v,avv P o ev v∧K .none v σ)∨∃ dm v σ',axg P o ev σ dm v σ'∧K dm v σ'
theorem aIN {P:Program}{c:Ctx}{g:G}{w:World}{σ:St}{K:Option (Nat→Bool)→AV→St→Prop}{a:Act}{fr:Fr}{o:Oper} (hd:o.dst.isSome=true∨∃ t x y,o.op=.store t x y) (hi:xL c g w σ) (hf:RFr g w a.tmps fr) (h:aEB P o fr.ev σ K):yK P c o a.eval w g K:=by
 rcases h with h | ⟨v,h,hk⟩ | ⟨v,h,hk⟩ | ⟨dm,v,σ',h,hk⟩
 ·
  exact aL8 hd hi hf h
 ·
  exact aPm hi hf h hk
 ·
  exact aPh hi hf h hk
 ·
  exact aPk hi hf h hk
def AV.le (a b:AV):Prop:=∀ g w v,oP g w v a→oP g w v b
theorem AV.le_refl (a:AV):a.le a:=fun _ _ _ h=>h
theorem AV.le_any (a:AV):a.le .any:=fun _ _ _ _=>.any
theorem AV.le_nil_list (sz:Nat):AV.nil.le (.c (.list sz [])):=fun g w v h=>by cases h;exact .c (.empty _ _ _)
theorem AV.le_nil_own (t sz:Nat) (h0:0<sz):AV.nil.le (.own t sz []):=fun g w v h=>by
 cases h
 exact .own t sz [] ⟨h0,by simp,0,[],World.ownsRow_nil w 0 0 sz,by simp,by simp [Value.ownBlock]⟩
theorem AV.le_own_list (t sz:Nat) (xs:List (List PV)):(AV.own t sz xs).le (.c (.list sz xs)):=fun g w v h=>.c h.own_inv.rv
inductive AV.leL:List AV→List AV→Prop
 | nil:AV.leL [] []
 | cons {a b:AV}{as bs:List AV} (h:a.le b) (t:AV.leL as bs):AV.leL (a :: as) (b :: bs)
theorem AV.leL_refl:∀ l:List AV,AV.leL l l
 | []=>.nil
 | a :: as=>.cons (AV.le_refl a) (AV.leL_refl as)
theorem iE.le {g:G}{w:World}{vs:Array Value}:∀ {as bs:List AV},AV.leL as bs→iE g w vs as→iE g w vs bs:=by
 intro as bs h
 have key:as.length=bs.length∧∀ (i:Nat) (b:AV),bs[i]?=some b→∃ a,as[i]?=some a∧a.le b:=by
  induction h with
  | nil=>exact ⟨rfl,by simp⟩
  | cons h t ih =>
   refine ⟨by simp [ih.1],fun i b hb=>?_⟩
   cases i with
   | zero=>simp at hb;subst hb;exact ⟨_,rfl,h⟩
   | succ i=>simp at hb;simpa using ih.2 i b hb
 intro hc
 refine ⟨hc.1.trans key.1,fun i v b hv hb=>?_⟩
 obtain ⟨a,ha,hle⟩:=key.2 i b hb
 exact hle g w v (hc.2 i v a hv ha)
theorem AV.le_agg {as bs:List AV} (h:AV.leL as bs):(AV.agg as).le (.agg bs):=fun g w v hv=>by
 cases hv with
 | agg vs cs h1 h2 =>
  have:=iE.le h (show iE g w vs as from ⟨h1,h2⟩)
  exact .agg vs bs this.1 this.2
theorem AV.le_tup {as bs:List AV} (h:AV.leL as bs):(AV.tup as).le (.tup bs):=fun g w v hv=>by
 cases hv with
 | tup vs cs h1 h2 =>
  have:=iE.le h (show iE g w vs as from ⟨h1,h2⟩)
  exact .tup vs bs this.1 this.2
mutual
def AV.lowT (lt ids:List Nat):AV→AV
 | .own t sz xs=>(match lt.idxOf? t with | some k=>.own (1600000+k) sz xs | _=>.c (.list sz xs))
 | .agg cs=>.agg (AV.lowTL lt ids cs)
 | .tup cs=>.tup (AV.lowTL lt ids cs)
 | .fn f cs=>.fn f (AV.lowTL lt ids cs)
 | .box id off=>(match ids.idxOf? id with | some k=>.box k off | _=>.any)
 | .ptrs _=>.any
 | .mrow ..=>.any
 | .mptr ..=>.any
 | .view id off n=>(match ids.idxOf? id with | some k=>.view k off n | _=>.any)
 | .pptr _=>.any
 | a=>a
def AV.lowTL (lt ids:List Nat):List AV→List AV
 | []=>[]
 | a :: as=>AV.lowT lt ids a :: AV.lowTL lt ids as
end
theorem AV.lowTL_eq (lt ids:List Nat) (l:List AV):AV.lowTL lt ids l=l.map (AV.lowT lt ids):=by
 induction l with
 | nil=>rfl
 | cons a l ih=>simp [AV.lowTL,ih]
abbrev AV.low (ids:List Nat) (a:AV):AV:=AV.lowT [] ids a
abbrev AV.lowL (ids:List Nat) (l:List AV):List AV:=AV.lowTL [] ids l
def aFh (lt:List Nat) (d:Nat):Nat→Bool:=fun t=>lt.contains t||t / 16==d
theorem aIR (d:Nat):aFh [] d=fun t=>t / 16==d:=by funext t;simp [aFh]
theorem aGl {l:List Nat}{t k:Nat} (h:l.idxOf? t=some k):l[k]?=some t:=by
 rw [List.idxOf?,List.findIdx?_eq_some_iff_getElem] at h
 obtain ⟨h1,h2,_⟩:=h
 rw [aT h1]
 simpa using h2
mutual
def AV.lift (ids:List Nat) (n d:Nat):AV→AV
 | .own t sz xs=>if t<16 then .own (16*d+t) sz xs else .c (.list sz xs)
 | .agg cs=>.agg (AV.liftL ids n d cs)
 | .tup cs=>.tup (AV.liftL ids n d cs)
 | .fn f cs=>.fn f (AV.liftL ids n d cs)
 | .box k off=>(match ids[k]? with | some i=>.box i off | _=>.box (n+(k - ids.length)) off)
 | .ptrs l=>.ptrs (l.map fun p=>((match ids[p.1]? with | some i=>i | _=>n+(p.1 - ids.length)),p.2))
 | .view k off m=>(match ids[k]? with | some i=>.view i off m | _=>.view (n+(k - ids.length)) off m)
 | .mrow t sz xs=>if t<16 then .mrow (16*d+t) sz xs else .any
 | .mptr ..=>.any
 | .pptr p=>.pptr ((match ids[p.1]? with | some i=>i | _=>n+(p.1 - ids.length)),p.2)
 | a=>a
def AV.liftL (ids:List Nat) (n d:Nat):List AV→List AV
 | []=>[]
 | a :: as=>AV.lift ids n d a :: AV.liftL ids n d as
end
theorem AV.liftL_eq (ids:List Nat) (n d:Nat) (l:List AV):AV.liftL ids n d l=l.map (AV.lift ids n d):=by
 induction l with
 | nil=>rfl
 | cons a l ih=>simp [AV.liftL,ih]
def aDk (P:Program) (f:FuncId):Bool:=match P.funcs[f]? with | some fn=>fn.name != "runtime.NumGoroutine"&&fn.body.isSome | _=>false
def cQ (P:Program) (f:FuncId) (args:List AV) (σ:St) (r:AV) (σ':St):Prop :=
 aDk P f=true∧∀ (w:World) (I:Nat→Nat→Prop) (β:List Nat) (τ:Nat→Option Nat) (vs:Array Value),
  (∀ b o,I b o→b<w.heap.size)→β.Nodup→(∀ b∈β,b<w.heap.size)→(∀ b∈β,∀ o,¬I b o)→(∀ t b,τ t=some b→b<w.heap.size∧b ∉ β)→(∀ t t' b,τ t=some b→τ t'=some b→t=t')→β.length=σ.length →
  (∀ (id:Nat) cs b,σ[id]?=some cs→β[id]?=some b→aS6 ⟨I,β,τ⟩ w b cs)→iE ⟨I,β,τ⟩ w vs args→Glo I w →
  Calls P f vs w fun e w'=>∃ v g',e=.returned v∧xL ⟨w,I,β,fun b=>∃ t,τ t=some b⟩ g' w' σ'∧oP g' w' v r
def aGq (lt:List Nat) (g:G):Nat→Option Nat:=fun j=>if 1600000≤j then (lt[j - 1600000]?).bind g.τ else none
theorem aMv (g:G):aGq [] g=fun _=>none:=by funext j;simp [aGq]
theorem oP.lowT {g:G}{w:World}{v:Value}{a:AV} (lt ids:List Nat) (β:List Nat) (hβ:∀ (k id:Nat) (b:Nat),ids[k]?=some id→g.β[id]?=some b→β[k]?=some b) (h:oP g w v a):oP ⟨g.I,β,aGq lt g⟩ w v (a.lowT lt ids):=by
 induction h with
 | c h=>exact .c h
 | nil=>exact .nil
 | own t sz xs h =>
  simp only [AV.lowT]
  split
  ·
   rename_i k hk
   obtain ⟨h0,hs,e,cells,ho,hv,hb⟩:=h
   exact .own _ sz xs ⟨h0,hs,e,cells,ho,hv,fun b hb'=>⟨by show aGq lt g (1600000+k)=some b;rw [aGq,bH (by omega),show 1600000+k - 1600000=k by omega,aGl hk];exact (hb b hb').1,(hb b hb').2⟩⟩
  ·
   exact .c h.rv
 | agg vs cs h _ ih =>
  simp only [AV.lowT,AV.lowTL_eq]
  refine .agg vs _ (by simpa using h) (fun i v a hv ha=>?_)
  simp only [cJ,cM] at ha
  obtain ⟨a,ha,rfl⟩:=ha
  exact ih i v a hv ha
 | tup vs cs h _ ih =>
  simp only [AV.lowT,AV.lowTL_eq]
  refine .tup vs _ (by simpa using h) (fun i v a hv ha=>?_)
  simp only [cJ,cM] at ha
  obtain ⟨a,ha,rfl⟩:=ha
  exact ih i v a hv ha
 | box id off b hb =>
  simp only [AV.lowT]
  split
  ·
   rename_i k hk
   exact .box k off b (hβ k id b (aGl hk) hb)
  ·
   exact .any
 | eptr b o off cs vs hc hv=>exact .eptr b o off cs vs hc hv
 | ptrs b o cap l hcap hc=>exact .any
 | mrow t sz xs h=>exact .any
 | mptr t sz i off row h=>exact .any
 | view id off n b cap hb hn =>
  simp only [AV.lowT]
  split
  ·
   rename_i k hk
   exact .view k off n b cap (hβ k id b (aGl hk) hb) hn
  ·
   exact .any
 | pptr b o bk p hi hb hc=>exact .any
 | fn k vs cs h _ ih =>
  simp only [AV.lowT,AV.lowTL_eq]
  refine .fn k vs _ (by simpa using h) (fun i v a hv ha=>?_)
  simp only [cJ,cM] at ha
  obtain ⟨a,ha,rfl⟩:=ha
  exact ih i v a hv ha
 | nilptr=>exact .nilptr
 | any=>exact .any
theorem oP.low {g:G}{w:World}{v:Value}{a:AV} (ids:List Nat) (β:List Nat) (hβ:∀ (k id:Nat) (b:Nat),ids[k]?=some id→g.β[id]?=some b→β[k]?=some b) (h:oP g w v a):oP ⟨g.I,β,fun _=>none⟩ w v (a.low ids):=by
 have:=h.lowT [] ids β hβ
 rwa [aMv] at this
theorem iE.lowT {g:G}{w:World}{vs:Array Value}{cs:List AV} (lt ids:List Nat) (β:List Nat) (hβ:∀ (k id:Nat) (b:Nat),ids[k]?=some id→g.β[id]?=some b→β[k]?=some b) (h:iE g w vs cs):iE ⟨g.I,β,aGq lt g⟩ w vs (AV.lowTL lt ids cs):=by
 rw [AV.lowTL_eq]
 refine ⟨by simpa using h.1,fun i v a hv ha=>?_⟩
 simp only [cJ,cM] at ha
 obtain ⟨a,ha,rfl⟩:=ha
 exact (h.2 i v a hv ha).lowT lt ids β hβ
theorem iE.low {g:G}{w:World}{vs:Array Value}{cs:List AV} (ids:List Nat) (β:List Nat) (hβ:∀ (k id:Nat) (b:Nat),ids[k]?=some id→g.β[id]?=some b→β[k]?=some b) (h:iE g w vs cs):iE ⟨g.I,β,fun _=>none⟩ w vs (AV.lowL ids cs):=by
 have:=h.lowT [] ids β hβ
 rwa [aMv] at this
theorem oP.lift {g1 g2:G}{w:World}{v:Value}{a:AV} (ids:List Nat) (n d:Nat) (hI:g2.I=g1.I)
  (hβ1:∀ (k i b:Nat),ids[k]?=some i→g1.β[k]?=some b→g2.β[i]?=some b) (hβ2:∀ (k b:Nat),ids[k]?=none→g1.β[k]?=some b→g2.β[n+(k - ids.length)]?=some b)
  (hτ:∀ (t b:Nat),t<16→g1.τ t=some b→g2.τ (16*d+t)=some b) (h:oP g1 w v a):oP g2 w v (a.lift ids n d):=by
 have hβ:∀ (k b:Nat),g1.β[k]?=some b→g2.β[(match ids[k]? with | some i=>i | _=>n+(k - ids.length))]?=some b:=by
  intro k b hb
  split
  ·
   rename_i i hi;exact hβ1 k i b hi hb
  ·
   rename_i hi;exact hβ2 k b (by cases h:ids[k]? <;> simp_all) hb
 induction h with
 | c h=>exact .c (hI ▸ h)
 | nil=>exact .nil
 | own t sz xs h =>
  simp only [AV.lift]
  split
  ·
   rename_i ht
   obtain ⟨h0,hs,e,cells,ho,hv,hb⟩:=h
   exact .own _ sz xs ⟨h0,hs,e,cells,ho,fun i j x p hx hp=>by rw [hI];exact hv i j x p hx hp,fun b hb'=>⟨hτ t b ht (hb b hb').1,fun o=>by rw [hI];exact (hb b hb').2 o⟩⟩
  ·
   exact .c (hI ▸ h.rv)
 | agg vs cs h _ ih =>
  simp only [AV.lift,AV.liftL_eq]
  refine .agg vs _ (by simpa using h) (fun i v a hv ha=>?_)
  simp only [cJ,cM] at ha
  obtain ⟨a,ha,rfl⟩:=ha
  exact ih i v a hv ha
 | tup vs cs h _ ih =>
  simp only [AV.lift,AV.liftL_eq]
  refine .tup vs _ (by simpa using h) (fun i v a hv ha=>?_)
  simp only [cJ,cM] at ha
  obtain ⟨a,ha,rfl⟩:=ha
  exact ih i v a hv ha
 | box k off b hb =>
  simp only [AV.lift]
  split
  ·
   rename_i i hi
   exact .box i off b (hβ1 k i b hi hb)
  ·
   rename_i hi
   exact .box _ off b (hβ2 k b (by cases h:ids[k]? <;> simp_all) hb)
 | eptr b o off cs vs hc hv=>exact .eptr b o off cs vs (fun j hj=>by rw [hI];exact hc j hj) (fun j p hp=>by rw [hI];exact hv j p hp)
 | view k off m b cap hb hn =>
  simp only [AV.lift]
  split
  ·
   rename_i i hi
   exact .view i off m b cap (hβ1 k i b hi hb) hn
  ·
   rename_i hi
   exact .view _ off m b cap (hβ2 k b (by cases h:ids[k]? <;> simp_all) hb) hn
 | mrow t sz xs h =>
  simp only [AV.lift]
  split
  ·
   rename_i ht
   obtain ⟨h0,hs,e,cells,ho,hv,hb⟩:=h
   exact .mrow _ sz xs ⟨h0,hs,e,cells,ho,fun i j x p hx hp=>by rw [hI];exact hv i j x p hx hp,fun b hb'=>⟨hτ t b ht (hb b hb').1,fun o=>by rw [hI];exact (hb b hb').2 o⟩⟩
  ·
   exact .any
 | mptr t sz i off row h=>exact .any
 | ptrs b o cap l hcap hc =>
  simp only [AV.lift]
  have:=oP.ptrs (g:=g2) (w:=w) b o cap (l.map fun p=>((match ids[p.1]? with | some i=>i | _=>n+(p.1 - ids.length)),p.2)) (by simpa using hcap) (fun i p hp=>?_)
  ·
   rwa [iI] at this
  ·
   rw [cJ,cM] at hp
   obtain ⟨q,hq,rfl⟩:=hp
   obtain ⟨h1,bk,h2,h3⟩:=hc i q hq
   exact ⟨by rw [hI];exact h1,bk,hβ _ _ h2,h3⟩
 | pptr b o bk p hi hb hc=>exact .pptr b o bk _ (by rw [hI];exact hi) (hβ _ _ hb) hc
 | fn k vs cs h _ ih =>
  simp only [AV.lift,AV.liftL_eq]
  refine .fn k vs _ (by simpa using h) (fun i v a hv ha=>?_)
  simp only [cJ,cM] at ha
  obtain ⟨a,ha,rfl⟩:=ha
  exact ih i v a hv ha
 | nilptr=>exact .nilptr
 | any=>exact .any
def St.upd (σ:St):List Nat→St→St
 | [],_=>σ
 | _ :: _,[]=>σ
 | i :: is,cs :: r=>St.upd (σ.set i cs) is r

/- The operations' rules are sound. The operations' rules are sound (the rest, and all together). The builtin calls' rules, and all rules together. More operations: arrays' literals and elements, equality of structs and arrays, pointers to arrays that lie in slices. Rows that may be stored into, and arrays told by slices. Calls and code: the logic's judgements and their soundness. -/
import Derived.Test.YtnigjppddilpcaaGreatDoorAbs5
import Derived.ChangeKeysEq
import Derived.Laws.MakeOwn
namespace Go.Proofs.YtnigjppddilpcaaGreatDoor.Abs
open Go
set_option linter.unusedVariables false
set_option linter.unusedSimpArgs false
section
variable {P:Program}{c:Ctx}{g:G}{w:World}{σ:St}{K:Option (Nat→Bool)→AV→St→Prop}{a:Act}{fr:Fr}{dst:Option Tmp}{ty:TypeId}{pos:String}{after:Array Edge}{guard:Option (Nat × Bool)}
theorem aU2 {x:Operand} (hi:tT c g w σ) (hf:yV g w a.tmps fr) (h:K .none (fr.ev x) σ):rU P c ⟨dst,.move x,ty,pos,after,guard⟩ a.eval w g K :=
 .same hi (by simp [execOp]) (fK hf x) h
theorem aSC {x:Operand} (hi:tT c g w σ) (hf:yV g w a.tmps fr) (h:K .none (fr.ev x) σ):rU P c ⟨dst,.assign x,ty,pos,after,guard⟩ a.eval w g K :=
 .same hi (by simp [execOp]) (fK hf x) h
theorem aU3 {x p q:Operand} (hi:tT c g w σ) (hf:yV g w a.tmps fr) (h:eG P ⟨dst,.pick x p q,ty,pos,after,guard⟩ fr.ev σ K):rU P c ⟨dst,.pick x p q,ty,pos,after,guard⟩ a.eval w g K:=by
 simp only [eG] at h
 have hx:=fK hf x
 have hp:=fK hf p
 have hq:=fK hf q
 split at h
 ·
  rename_i t ht
  rw [ht] at hx
  generalize hvx:a.eval x=vx at hx
  cases hx with
  | c hx =>
   cases hx
   split at h
   ·
    rename_i bp bq e1 e2
    rw [e1] at hp
    rw [e2] at hq
    refine .same hi (v:=if t then a.eval p else a.eval q) (by cases t <;> simp [execOp,hvx,asBool]) ?_ h
    cases t
    ·
     exact hq
    ·
     exact hp
   ·
    cases t
    ·
     exact .same hi (by simp [execOp,hvx,asBool]) hq (h.2 rfl)
    ·
     exact .same hi (by simp [execOp,hvx,asBool]) hp (h.1 rfl)
 ·
  exact h.elim
theorem aTq {e:TypeId} (hi:tT c g w σ) (hf:yV g w a.tmps fr) (h:eG P ⟨dst,.alloc e,ty,pos,after,guard⟩ fr.ev σ K):rU P c ⟨dst,.alloc e,ty,pos,after,guard⟩ a.eval w g K:=by
 simp only [eG] at h
 split at h
 ·
  rename_i z hz
  unfold mM at hz
  cases hin:P.info? e with
  | none=>simp [hin] at hz
  | some i =>
   simp only [hin] at hz
   cases hzz:i.zero with
   | none=>simp [hzz] at hz
   | some zv =>
    simp only [hzz,dB] at hz
    subst hz
    have hc:gB g w zv.cells (zv.cells.toList.map AV.ofFlat):=by
     refine ⟨by simp,fun i v x hv hx=>?_⟩
     rw [bY,dS,hv] at hx
     simp at hx
     subst hx
     exact nA.ofFlat g w v
    obtain ⟨g',hi',st,hb⟩:=hi.alloc zv.cells e _ hc
    refine ⟨_,.pointer (some ⟨w.heap.size,0,none⟩),w.alloc (.cells zv.cells e),.none,_,_,g',?_,.inl rfl,h,hi',st,.box _ _ _ hb⟩
    simp [execOp,Instr.alloc,newVar,newRow,zeroValue,typeInfo,hin,hzz]
 ·
  exact h.elim
theorem aVE {e:TypeId}{x:Operand} (hi:tT c g w σ) (hf:yV g w a.tmps fr) (h:eG P ⟨dst,.box e x,ty,pos,after,guard⟩ fr.ev σ K):rU P c ⟨dst,.box e x,ty,pos,after,guard⟩ a.eval w g K:=by
 simp only [eG] at h
 obtain ⟨hs,hk⟩:=h
 obtain ⟨hc,_⟩:=(fK hf x).cells hs
 obtain ⟨g',hi',st,hb⟩:=hi.alloc (a.eval x).cells e _ hc
 refine ⟨_,.pointer (some ⟨w.heap.size,0,none⟩),w.alloc (.cells (a.eval x).cells e),.none,_,_,g',?_,.inl rfl,hk,hi',st,.box _ _ _ hb⟩
 simp [execOp,Instr.box,newVar,newRow]
theorem aMs {t:TypeId}{f off n:Nat} (h:pT P t f=some (off,n)):∃ fs x i,P.underlying t=some (.struct fs)∧fs[f]?=some x∧P.info? x.type=some i∧x.offset=off∧i.size=n:=by
 unfold pT aCw at h
 cases hu:P.underlying t with
 | none=>simp [hu] at h
 | some d =>
  cases d <;> simp only [hu] at h <;> try (cases h;done)
  rename_i fs
  cases hx:fs[f]? with
  | none=>simp [hx] at h
  | some x =>
   simp only [hx] at h
   cases hin:P.info? x.type with
   | none=>simp [hin] at h
   | some i =>
    simp only [hin,dB,mT] at h
    exact ⟨fs,x,i,rfl,hx,hin,h.1,h.2⟩
theorem aJz (l:List Value):∀ (off:Nat) (cs:Array Value) (k:Nat),off+k+l.length≤cs.size →
  (l.zipIdx k).foldl (fun (cs:Array Value) (p:Value × Nat)=>cs.setIfInBounds (off+p.2) p.1) cs=(cs.toList.take (off+k)++l++cs.toList.drop (off+k+l.length)).toArray:=by
 induction l with
 | nil=>intro off cs k h;simp
 | cons v l ih =>
  intro off cs k h
  simp only [List.zipIdx_cons,pH]
  rw [ih off _ (k+1) (by simp at h ⊢;omega)]
  have e:=list_seg_step cs.toList (off+k) v l (by simp at h ⊢;omega)
  simp only [Array.toList_setIfInBounds]
  simpa [kM,Nat.add_comm 1] using e
theorem aHw (vs cs:Array Value) (off:Nat) (h:off+vs.size≤cs.size) :
  vs.zipIdx.foldl (fun (cs:Array Value) (x:Value × Nat)=>match x with | (c,j)=>cs.setIfInBounds (off+j) c) cs=(cs.toList.take off++vs.toList++cs.toList.drop (off+vs.size)).toArray:=by
 have:=aJz vs.toList off cs 0 (by simpa using h)
 simp only [tA,iS] at this
 rw [← this,← Array.foldl_toList,Array.toList_zipIdx]
theorem aH8 {t:TypeId}{fs:Array Field}{places:Array (Nat × Nat)} (hfs:P.underlying t=some (.struct fs)) (hpl:∀ (i:Nat) off n,pT P t i=some (off,n)→places[i]?=some (off,n)) (hf:yV g w a.tmps fr) :
  ∀ (parts:List (Nat × Operand)) (cs:List AV) (cur:Array Value) (r:List AV),gB g w cur cs→aFo P t fr.ev cs parts=some r →
   ∃ cur',Instr.fill (places[·]?) cur (parts.map fun (i,x)=>(i,a.eval x))=some cur'∧gB g w cur' r
 | [],cs,cur,r,hc,h=>by simp [aFo] at h;subst h;exact ⟨cur,rfl,hc⟩
 | (i,x) :: rest,cs,cur,r,hc,h=>by
  simp only [aFo] at h
  split at h
  ·
   rename_i off n hp
   split at h
   ·
    rename_i hcond
    obtain ⟨h1,h2,h3⟩:=hcond
    obtain ⟨hv,_⟩:=(fK hf x).cells h1
    have hsz:(a.eval x).cells.size=n:=hv.1.trans h2
    have hsp:=hc.splice hv off (by omega)
    obtain ⟨cur',hfill,hr⟩:=aH8 hfs hpl hf rest _ _ r hsp (by rw [h2];exact h)
    refine ⟨cur',?_,hr⟩
    have hcs:cur.size=cs.length:=hc.1
    simp only [iN,Instr.fill,hpl i off n hp]
    rw [aY (by simp;omega),aHw _ _ _ (by omega)]
    exact hfill
   ·
    cases h
  ·
   cases h
theorem aNP {α β:Type}{f:α→Sem β}{h:α→β}:∀ {l:List α},(∀ x∈l,(f x).run P w=.ok (h x) w)→(l.mapM f).run P w=.ok (l.map h) w
 | [],_=>by simp
 | x :: l,hx=>by
  have h1:=hx x (by simp)
  have h2:=aNP (l:=l) (fun y hy=>hx y (by simp [hy]))
  simp [List.mapM_cons,h1,h2]
theorem aTs {t:TypeId}{parts:Array (Nat × Operand)} (hi:tT c g w σ) (hf:yV g w a.tmps fr) (h:eG P ⟨dst,.build t parts,ty,pos,after,guard⟩ fr.ev σ K):rU P c ⟨dst,.build t parts,ty,pos,after,guard⟩ a.eval w g K:=by
 simp only [eG] at h
 obtain ⟨h6,hok,h⟩:=h
 split at h
 ·
  rename_i z hz
  split at h
  ·
   rename_i cs hcs
   unfold mM at hz
   cases hin:P.info? t with
   | none=>simp [hin] at hz
   | some i =>
    simp only [hin] at hz
    cases hzz:i.zero with
    | none=>simp [hzz] at hz
    | some zv =>
     simp only [hzz,dB] at hz
     subst hz
     have hc:gB g w zv.cells (zv.cells.toList.map AV.ofFlat):=by
      refine ⟨by simp,fun i v x hv hx=>?_⟩
      rw [bY,dS,hv] at hx
      simp at hx
      subst hx
      exact nA.ofFlat g w v
     unfold jZ at h6
     cases hu:P.underlying t with
     | none=>simp [hu] at h6
     | some d =>
      cases d <;> simp only [hu] at h6 <;> try (cases h6;done)
      rename_i fs
      have hall:∀ f∈fs.toList,∃ i,P.info? f.type=some i:=by
       simp only [aFk,aCw,hu,cI] at hok
       exact fun f hf'=>jS.1 (hok f hf')
      ·
       have hm:=aNP (P:=P) (w:=w) (l:=fs.toList) (f:=fun (f:Field)=>(do pure (f.offset,← sizeOf f.type):Sem (Nat × Nat))) (h:=fun f=>(f.offset,((P.info? f.type).map (·.size)).getD 0))
        (fun f hf'=>by obtain ⟨i,hi⟩:=hall f hf';simp [sizeOf,typeInfo,hi])
       obtain ⟨cur',hfill,hr⟩:=aH8 (P:=P) (a:=a) (fr:=fr) hu (places:=(fs.toList.map fun f=>(f.offset,((P.info? f.type).map (·.size)).getD 0)).toArray) (fun i off n hp=>by
        obtain ⟨fs',x,i',hu',hx,hin',ho,hn⟩:=aMs hp
        rw [hu] at hu'
        simp at hu'
        subst hu'
        simp [hx,hin',ho,hn]) hf parts.toList _ _ _ hc hcs
       refine .same hi (v:=.agg cur') ?_ (.agg cur' cs hr.1 hr.2) h
       have hz0:(zeroValue t).run P w=.ok zv w:=by simp [zeroValue,typeInfo,hin,hzz]
       have hfill':Instr.fill (fun x=>(fs.toList.map fun f=>(f.offset,((P.info? f.type).map (·.size)).getD 0)).toArray[x]?) zv.cells (parts.map fun (i,x)=>(i,a.eval x)).toList=some cur':=by rw [Array.toList_map];exact hfill
       simp only [execOp,Instr.build,Sem.run_bind,hz0,Result.andThen_ok,run_underlying hu,Array.mapM_eq_mapM_toList,Sem.run_map,hm,hfill',Sem.run_pure]
  ·
   exact h.elim
 ·
  exact h.elim
theorem nA.pvh {v:Value}{a:AV}{p:PV}{n:Nat} (h:nA g w v a) (hp:a.pvh? n=some p):RV g.I w v p:=by
 cases h with
 | c h=>simp [AV.pvh?] at hp;exact hp ▸ h
 | nil=>simp [AV.pvh?] at hp;exact hp ▸ .empty none 0 n
 | own t sz xs h=>simp [AV.pvh?] at hp;exact hp ▸ h.rv
 | _=>simp [AV.pvh?] at hp
theorem aIl:∀ {hs:List Nat}{l:List AV}{ps:List PV},AV.pvhs? hs l=some ps→ps.length=l.length
 | hs,[],ps,h=>by simp [AV.pvhs?] at h;subst h;rfl
 | hs,a :: as,ps,h=>by
  simp only [AV.pvhs?] at h
  split at h
  ·
   split at h
   ·
    rename_i q hq
    simp only [dB] at h
    subst h
    simp [aIl hq]
   ·
    cases h
  ·
   cases h
theorem aJR:∀ {hs:List Nat}{l:List AV}{ps:List PV},AV.pvhs? hs l=some ps→∀ (i:Nat) (p:PV),ps[i]?=some p→∃ a n,l[i]?=some a∧a.pvh? n=some p
 | hs,[],ps,h,i,p,hp=>by simp [AV.pvhs?] at h;subst h;simp at hp
 | hs,a :: as,ps,h,i,p,hp=>by
  simp only [AV.pvhs?] at h
  split at h
  ·
   rename_i q hq
   split at h
   ·
    rename_i qs hqs
    simp only [dB] at h
    subst h
    cases i with
    | zero=>simp at hp;subst hp;exact ⟨a,_,rfl,hq⟩
    | succ i=>simp at hp;exact aJR hqs i p hp
   ·
    cases h
  ·
   cases h
theorem aEl {hs:List Nat}{sz:Nat} (hf:yV g w a.tmps fr):∀ (parts:List (Nat × Operand)) (k:Nat) (rows:List (List PV)),aB4 hs sz fr.ev k parts=some rows →
  ∃ cells,(∀ cur:Array Value,cur.size=(k+parts.length)*sz→Instr.fill (fun i=>some (i*sz,sz)) cur (parts.map fun (i,x)=>(i,a.eval x))=some (cur.toList.take (k*sz)++cells).toArray)∧cells.length=rows.length*sz∧rows.length=parts.length∧(∀ r∈rows,r.length=sz) ∧
   (∀ (i j:Nat) (x:List PV) (p:PV),rows[i]?=some x→x[j]?=some p→∃ u,cells[i*sz+j]?=some u∧RV g.I w u p)
 | [],k,rows,h=>by
  simp [aB4] at h
  subst h
  refine ⟨[],fun cur hc=>?_,by simp,rfl,by simp,by simp⟩
  simp only [sZ,Instr.fill,mH]
  rw [hZ (by simp at hc ⊢;omega)]
 | (i,x) :: rest,k,rows,h=>by
  simp only [aB4] at h
  split at h
  ·
   rename_i hik
   subst hik
   split at h
   ·
    rename_i ps hps
    split at h
    ·
     rename_i hlen
     split at h
     ·
      rename_i rs hrs
      simp only [dB] at h
      subst h
      have hx:=fK hf x
      have hcl:=aIl hps
      have hsol:(fr.ev x).solid=true:=by
       have key:∀ y∈(fr.ev x).cells,y.flat=true:=by
        intro y hy
        obtain ⟨n,hn,rfl⟩:=List.getElem_of_mem hy
        have hn':n<ps.length:=by omega
        obtain ⟨a',n',ha',hp'⟩:=aJR hps n _ (aM hn')
        rw [aM hn] at ha'
        cases ha'
        revert hp'
        cases (fr.ev x).cells[n] <;> simp [AV.pvh?,AV.flat]
       revert key
       cases fr.ev x <;> simp [AV.cells,AV.solid,AV.flat]
      obtain ⟨hv,_⟩:=hx.cells hsol
      have hvs:(a.eval x).cells.size=sz:=by rw [hv.1,← hcl,hlen]
      have hk1:(i+1)*sz=i*sz+sz:=by rw [fO,pZ]
      have hge:(rest.length+1)*sz=rest.length*sz+sz:=by rw [fO,pZ]
      obtain ⟨cells,hfill0,h1,h2,h3,h4⟩:=aEl hf rest (i+1) rs hrs
      refine ⟨(a.eval x).cells.toList++cells,fun cur hc=>?_,?_,by simp [h2],?_,?_⟩
      ·
       have hcs:cur.size=i*sz+(rest.length+1)*sz:=by rw [hc,fB,fO]
       have hnew:=aHw (a.eval x).cells cur (i*sz) (by omega)
       have hfill:=hfill0 (cur.toList.take (i*sz)++(a.eval x).cells.toList++cur.toList.drop (i*sz+(a.eval x).cells.size)).toArray (by
        simp only [List.size_toArray,aF,nC,lX,iS,hvs]
        rw [show (i+1+rest.length)*sz=i*sz+(rest.length*sz+sz) by rw [show i+1+rest.length=i+(rest.length+1) by omega,fO,hge]]
        omega)
       simp only [iN,Instr.fill]
       rw [aY (by simp;omega),hnew,hfill]
       congr 2
       have hl1:(cur.toList.take (i*sz)).length=i*sz:=by simp;omega
       rw [hk1,dJ,List.take_append,hl1,← dJ]
       congr 1
       rw [hZ (by rw [hl1];omega)]
       congr 1
       rw [show i*sz+sz - i*sz=sz by omega,mA (by simp [hvs])]
       exact hZ (by simp [hvs])
      ·
       simp only [aF,iS,hvs,h1,fB,fO,pZ]
       omega
      ·
       intro r hr
       rcases eT.1 hr with rfl | hr
       ·
        exact hlen
       ·
        exact h3 r hr
      ·
       intro n j y p hy hp
       cases n with
       | zero =>
        simp only [List.getElem?_cons_zero,dB] at hy
        subst hy
        have hj:=(bR.1 hp).1
        obtain ⟨a',n',ha',hp'⟩:=aJR hps j p hp
        have hjs:j<(a.eval x).cells.size:=by omega
        refine ⟨(a.eval x).cells[j],?_,(hv.2 j _ a' (eQ hjs) ha').pvh hp'⟩
        rw [Nat.zero_mul,jF,cQ (by simpa using hjs)]
        simp [hjs]
       | succ n =>
        simp only [oH] at hy
        obtain ⟨u,hu,hr⟩:=h4 n j y p hy hp
        refine ⟨u,?_,hr⟩
        rw [dL (by simp [hvs,fO];omega)]
        simp only [iS,hvs]
        rw [← hu]
        congr 1
        rw [fO,pZ]
        omega
     ·
      cases h
    ·
     cases h
   ·
    cases h
  ·
   cases h
theorem aL3 (hi:tT c g w σ) (f:Nat→Bool) (T:Nat) (hT:f T=true) {e:TypeId}{sz:Nat} (hpos:0<sz) {rows:List (List PV)}{cells:List Value} (hl:cells.length=rows.length*sz) (hm:rows.length≤maxLen) (hrows:∀ r∈rows,r.length=sz)
  (hv:∀ (i j:Nat) (x:List PV) (p:PV),rows[i]?=some x→x[j]?=some p→∃ u,cells[i*sz+j]?=some u∧RV g.I w u p) :
  ∃ g',tT c g' (w.alloc (.cells cells.toArray e)) (σ.dem f)∧Stp (g.dem f) w g' (w.alloc (.cells cells.toArray e))∧nA g' (w.alloc (.cells cells.toArray e)) (.slice (some ⟨w.heap.size,0,none⟩) rows.length rows.length) (.own T sz rows):=by
 let W:=w.alloc (.cells cells.toArray e)
 have hcell:∀ b o,b<w.heap.size→W.cell? ⟨b,o,none⟩=w.cell? ⟨b,o,none⟩:=fun b o h=>World.cell?_alloc_lt w _ _ h
 have hheap:∀ b,b<w.heap.size→W.heap[b]?=w.heap[b]?:=fun b h=>Go.RowKit.Below.heap_alloc w _ b h
 have hsz:(w.alloc (.cells cells.toArray e)).heap.size=w.heap.size+1:=by simp
 let I':Nat→Nat→Prop:=fun b o=>g.I b o∨(b=w.heap.size∧o<rows.length*sz)
 let g':G:={ I:=I',β:=g.β,τ:=fun t=>if t=T then some w.heap.size else if f t then none else g.τ t }
 have st:Stp (g.dem f) w g' W:=by
  refine ⟨fun b o h=>.inl h,fun b o h=>hcell b o (hi.Ilt b o h),fun _ _ h=>h,fun t b htb=>?_⟩
  simp only [G.dem] at htb
  split at htb
  ·
   cases htb
  ·
   rename_i hft
   have hft:f t=false:=by simpa using hft
   have hbl:=(hi.τnew t b htb).2.1
   refine ⟨?_,hheap b hbl,fun o h=>?_⟩
   ·
    show (if t=T then some w.heap.size else if f t then none else g.τ t)=some b
    rw [aY (by rintro rfl;rw [hT] at hft;cases hft),aY (by simp [hft])]
    exact htb
   ·
    rcases h with h | ⟨h,_⟩
    ·
     exact h
    ·
     omega
 refine ⟨g',?_,st,.own T sz rows ⟨hpos,hrows,e,cells,?_,fun i j x p hx hp=>?_,fun b hb=>?_⟩⟩
 ·
  refine ⟨hi.os,hi.tape,hi.output,by have:=hi.size;omega,fun b hb hn ho=>(hheap b (fG hb hi.size)).trans (hi.old b hb hn ho),fun b o h=>.inl (hi.Ile b o h),fun b o h hb ho=>?_,fun b o h=>?_,hi.βpre,hi.βnew,hi.βnd,?_,fun b hb o h=>?_,
   fun b hb=>by have:=hi.βlt b hb;omega,fun t b htb=>?_,fun t t' b h1 h2=>?_,fun id cs b hs' hb'=>?_,fun b o h=>(st.cell b o (hi.Ile b o h)).trans (hi.cell0 b o h),hi.glo⟩
  ·
   rcases h with h | ⟨h,_⟩
   ·
    exact hi.Iold b o h hb ho
   ·
    have:=hi.size
    omega
  ·
   rcases h with h | ⟨h,_⟩
   ·
    have:=hi.Ilt b o h
    omega
   ·
    omega
  ·
   rw [St.dem_eq,gG]
   exact hi.βlen
  ·
   rcases h with h | ⟨h,_⟩
   ·
    exact hi.βI b hb o h
   ·
    have:=hi.βlt b hb
    omega
  ·
   change (if t=T then some w.heap.size else if f t then none else g.τ t)=some b at htb
   split at htb
   ·
    simp at htb
    subst htb
    exact ⟨.inl hi.size,by omega,fun hb=>by have:=hi.βlt _ hb;omega⟩
   ·
    split at htb
    ·
     cases htb
    ·
     obtain ⟨h1,h2,h3⟩:=hi.τnew t b htb
     exact ⟨h1,by omega,h3⟩
  ·
   change (if t=T then some w.heap.size else if f t then none else g.τ t)=some b at h1
   change (if t'=T then some w.heap.size else if f t' then none else g.τ t')=some b at h2
   have key:∀ s,g.τ s=some b→b≠w.heap.size:=fun s hs'=>by have:=(hi.τnew s b hs').2.1;omega
   split at h1
   ·
    rename_i e1
    simp at h1
    split at h2
    ·
     rename_i e2
     rw [e1,e2]
    ·
     split at h2
     ·
      cases h2
     ·
      exact absurd h1.symm (key t' h2)
   ·
    split at h1
    ·
     cases h1
    ·
     split at h2
     ·
      simp at h2
      exact absurd h2.symm (key t h1)
     ·
      split at h2
      ·
       cases h2
      ·
       exact hi.τinj t t' b h1 h2
  ·
   obtain ⟨cur,e1,hh,hr⟩:=(hi.dem f).store id cs b hs' hb'
   exact ⟨cur,e1,(hheap b (hi.βlt b (dA hb'))).trans hh,hr.stp st⟩
 ·
  exact ⟨hl,.inr ⟨w.heap.size,rows.length,cells.toArray,rfl,Nat.zero_le _,heap_alloc_new w _,eP _,hm,by simpa using hl,by simp [← hl]⟩⟩
 ·
  obtain ⟨u,hu,hr⟩:=hv i j x p hx hp
  exact ⟨u,hu,hr.mono (fun _ _ h=>.inl h) (fun b o h=>hcell b o (hi.Ilt b o h))⟩
 ·
  simp [Value.ownBlock] at hb
  subst hb
  refine ⟨by simp [g'],fun o=>⟨?_,fun h=>.inr ⟨rfl,h⟩⟩⟩
  rintro (h | ⟨_,h⟩)
  ·
   have:=hi.Ilt _ o h
   omega
  ·
   exact h
theorem aQP (hi:tT c g w σ) (cells:Array Value) (e:TypeId):∃ g',tT c g' (w.alloc (.cells cells e)) σ∧Stp g w g' (w.alloc (.cells cells e))∧g'.β=g.β∧∀ o,o<cells.size→g'.I w.heap.size o:=by
 have hcell:∀ b o,b<w.heap.size→(w.alloc (.cells cells e)).cell? ⟨b,o,none⟩=w.cell? ⟨b,o,none⟩:=fun b o h=>World.cell?_alloc_lt w _ _ h
 have hheap:∀ b,b<w.heap.size→(w.alloc (.cells cells e)).heap[b]?=w.heap[b]?:=fun b h=>Go.RowKit.Below.heap_alloc w _ b h
 have hsz:(w.alloc (.cells cells e)).heap.size=w.heap.size+1:=by simp
 let g':G:={ g with I:=fun b o=>g.I b o∨(b=w.heap.size∧o<cells.size) }
 have st:Stp g w g' (w.alloc (.cells cells e)):=by
  refine ⟨fun b o h=>.inl h,fun b o h=>hcell b o (hi.Ilt b o h),fun _ _ h=>h,fun t b htb=>⟨htb,hheap b (hi.τnew t b htb).2.1,fun o h=>?_⟩⟩
  rcases h with h | ⟨h,_⟩
  ·
   exact h
  ·
   have:=(hi.τnew t b htb).2.1
   omega
 refine ⟨g',⟨hi.os,hi.tape,hi.output,by have:=hi.size;omega,fun b hb hn ho=>(hheap b (fG hb hi.size)).trans (hi.old b hb hn ho),fun b o h=>.inl (hi.Ile b o h),fun b o h hb ho=>?_,fun b o h=>?_,hi.βpre,hi.βnew,hi.βnd,hi.βlen,fun b hb o h=>?_,
   fun b hb=>by have:=hi.βlt b hb;omega,fun t b htb=>?_,hi.τinj,fun id cs b hs' hb'=>?_,fun b o h=>(st.cell b o (hi.Ile b o h)).trans (hi.cell0 b o h),hi.glo⟩,st,rfl,fun o ho=>.inr ⟨rfl,ho⟩⟩
 ·
  rcases h with h | ⟨h,_⟩
  ·
   exact hi.Iold b o h hb ho
  ·
   have:=hi.size
   omega
 ·
  rcases h with h | ⟨h,_⟩
  ·
   have:=hi.Ilt b o h
   omega
  ·
   omega
 ·
  rcases h with h | ⟨h,_⟩
  ·
   exact hi.βI b hb o h
  ·
   have:=hi.βlt b hb
   omega
 ·
  obtain ⟨h1,h2,h3⟩:=hi.τnew t b htb
  exact ⟨h1,by omega,h3⟩
 ·
  obtain ⟨cur,e1,hh,hr⟩:=hi.store id cs b hs' hb'
  exact ⟨cur,e1,(hheap b (hi.βlt b (dA hb'))).trans hh,hr.stp st⟩
theorem aIb (hf:yV g w a.tmps fr):∀ (parts:List (Nat × Operand)) (k:Nat) (l:List (Nat × Nat)),aGs fr.ev k parts=some l →
  ∃ cells,(∀ cur:Array Value,cur.size=k+parts.length→Instr.fill (fun i=>some (i*1,1)) cur (parts.map fun (i,x)=>(i,a.eval x))=some (cur.toList.take k++cells).toArray)∧cells.length=l.length∧l.length=parts.length ∧
   (∀ (i:Nat) (p:Nat × Nat),l[i]?=some p→∃ bk,g.β[p.1]?=some bk∧cells[i]?=some (.pointer (some ⟨bk,p.2,none⟩)))
 | [],k,l,h=>by
  simp [aGs] at h
  subst h
  refine ⟨[],fun cur hc=>?_,rfl,rfl,by simp⟩
  simp only [sZ,Instr.fill,mH]
  rw [hZ (by simp at hc ⊢;omega)]
 | (i,x) :: rest,k,l,h=>by
  simp only [aGs] at h
  split at h
  ·
   rename_i hik
   subst hik
   split at h
   ·
    rename_i id off hx0
    split at h
    ·
     rename_i rs hrs
     simp only [dB] at h
     subst h
     have hx:=fK hf x
     rw [hx0] at hx
     generalize hvx:a.eval x=vx at hx
     cases hx
     rename_i bk hb
     have hv1:(a.eval x).cells.toList=[Value.pointer (some ⟨bk,off,none⟩)]:=by rw [hvx];rfl
     have hv2:(a.eval x).cells.size=1:=by rw [hvx];rfl
     obtain ⟨cells,hfill0,h1,h2,h4⟩:=aIb hf rest (i+1) rs hrs
     refine ⟨Value.pointer (some ⟨bk,off,none⟩) :: cells,fun cur hc=>?_,by simp [h1],by simp [h2],?_⟩
     ·
      have hcs:cur.size=i+(rest.length+1):=by simpa using hc
      have hnew:=aHw (a.eval x).cells cur i (by omega)
      rw [hv1,hv2] at hnew
      have hfill:=hfill0 (cur.toList.take i++[Value.pointer (some ⟨bk,off,none⟩)]++cur.toList.drop (i+1)).toArray (by simp;omega)
      simp only [iN,Instr.fill,Nat.mul_one]
      simp only [Nat.mul_one] at hfill
      rw [aY (by simp [hv2];omega),hnew,hfill]
      congr 2
      have hl1:(cur.toList.take i).length=i:=by simp;omega
      rw [dJ,List.take_append,hl1,List.append_cons]
      congr 1
      rw [hZ (by rw [hl1];omega)]
      simp
     ·
      intro n p hp
      cases n with
      | zero=>simp at hp;subst hp;exact ⟨bk,hb,rfl⟩
      | succ n=>simp at hp;simpa using h4 n p hp
    ·
     cases h
   ·
    cases h
  ·
   cases h
theorem aEM {t e:TypeId}{i:TypeInfo}{z:Value} (hu:P.underlying t=some (.slice e)) (hin:P.info? e=some i) (hz:i.zero=some z) (len:Nat) (parts:Array (Nat × Value)) (hbig:len*i.size≤1000000) (cells:List Value)
  (hfill:∀ cur:Array Value,cur.size=len*i.size→Instr.fill (fun k=>some (k*i.size,i.size)) cur parts.toList=some cells.toArray) :
  (Instr.buildSlice t len parts).run P w=.ok (.slice (some ⟨w.heap.size,0,none⟩) len len) (w.alloc (.cells cells.toArray e)):=by
 have hbig2:¬(len*i.size > 2 ^ 24):=by omega
 have h1:(sizeOf e).run P w=.ok i.size w:=by simp [sizeOf,typeInfo,hin]
 have hz0:(zeroValue e).run P w=.ok z w:=by simp [zeroValue,typeInfo,hin,hz]
 simp only [Instr.buildSlice,Sem.run_bind,run_underlying hu,Result.andThen_ok,h1,Sem.run_ite,hbig2,dZ,Sem.run_pure]
 by_cases h0:len*i.size=0
 ·
  simp only [h0,cL,Result.andThen_ok]
  rw [hfill _ (by simp [h0])]
  simp [newRow]
 ·
  simp only [h0,dZ,hz0,Result.andThen_ok]
  rw [hfill _ (by simp)]
  simp [newRow]
theorem aMk {t:TypeId}{len:Nat}{parts:Array (Nat × Operand)} (hi:tT c g w σ) (hf:yV g w a.tmps fr) (h:eG P ⟨dst,.buildSlice t len parts,ty,pos,after,guard⟩ fr.ev σ K) (hd:dst.isSome=true):rU P c ⟨dst,.buildSlice t len parts,ty,pos,after,guard⟩ a.eval w g K:=by
 simp only [eG] at h
 obtain ⟨d,rfl⟩:=jS.1 hd
 split at h
 ·
  rename_i e sz bytes hts
  obtain ⟨hlen,hbig,hs,h⟩:=h
  obtain ⟨hu,i,z,hin,hz,hzs,hpos,hsz,_⟩:=vR hts
  subst hsz
  split at h
  ·
   rename_i rows hrows
   obtain ⟨cells,hfill0,h1,h2,h3,h4⟩:=aEl hf parts.toList 0 rows hrows
   have hfill:∀ cur:Array Value,cur.size=len*i.size→Instr.fill (fun k=>some (k*i.size,i.size)) cur (parts.map fun (k,x)=>(k,a.eval x)).toList=some cells.toArray:=by
    intro cur hcur
    rw [Array.toList_map,hfill0 cur (by rw [hcur,hlen,jF])]
    simp
   obtain ⟨g',hi',st,hr⟩:=aL3 hi (qP (some d)) (sQ (some d)) (by simp [qP,sQ]) (e:=e) (by omega:0<i.size) h1 (by unfold maxLen;have:=Nat.le_mul_of_pos_right rows.length hpos;rw [h2,hlen] at this ⊢;omega) h3 h4
   have hl2:rows.length=len:=h2.trans hlen
   rw [hl2] at hr
   exact ⟨_,_,_,_,_,_,g',by simp [execOp,aEM hu hin hz len _ hbig cells hfill],.inl rfl,h,hi',st,hr⟩
  ·
   split at h
   ·
    rename_i l hl
    obtain ⟨h1s,h⟩:=h
    obtain ⟨cells,hfill0,h1,h2,h4⟩:=aIb (g:=g) (w:=w) hf parts.toList 0 l hl
    have hfill:∀ cur:Array Value,cur.size=len*i.size→Instr.fill (fun k=>some (k*i.size,i.size)) cur (parts.map fun (k,x)=>(k,a.eval x)).toList=some cells.toArray:=by
     intro cur hcur
     rw [h1s] at hcur ⊢
     rw [Array.toList_map,hfill0 cur (by rw [hcur,hlen];omega)]
     simp
    obtain ⟨g',hi',st,hβ,hI⟩:=aQP hi cells.toArray e
    have hll:l.length=len:=h2.trans hlen
    refine ⟨_,_,_,.none,_,_,g',by simp [execOp,aEM hu hin hz len _ hbig cells hfill];rfl,.inl rfl,h,hi',st,?_⟩
    have hp:=nA.ptrs (g:=g') (w:=w.alloc (.cells cells.toArray e)) w.heap.size 0 len l (by omega) (fun k p hp=>?_)
    ·
     rw [hll] at hp
     exact hp
    ·
     obtain ⟨bk,hb,hc⟩:=h4 k p hp
     have hk:=(bR.1 hc).1
     refine ⟨by rw [jF];exact hI k (by simpa using hk),bk,by rw [hβ];exact hb,?_⟩
     rw [jF,aDe (heap_alloc_new w _)]
     simpa using hc
   ·
    exact h.elim
 ·
  exact h.elim
end
section
variable {P:Program}{c:Ctx}{g:G}{w:World}{σ:St}{K:Option (Nat→Bool)→AV→St→Prop}{a:Act}{fr:Fr}{dst:Option Tmp}{ty:TypeId}{pos:String}{after:Array Edge}{guard:Option (Nat × Bool)}
theorem nA.c_inv {g:G}{w:World}{v:Value}{p:PV} (h:nA g w v (.c p)):RV g.I w v p:=by cases h;assumption
theorem nA.own_inv {g:G}{w:World}{v:Value}{t sz:Nat}{xs:List (List PV)} (h:nA g w v (.own t sz xs)):aMK g w v t sz xs:=by cases h;assumption
theorem aH9 {t:TypeId}{ag:Bool}{n:Nat}{x:AV}{vx:Value}{Q:AV→Prop} (hi:tT c g w σ) (ht:kX P t=some (ag,n)) (hx:nA g w vx x) (h:aBj ag n x σ Q) :
  ∃ v av,(Instr.loadAt t vx).run P w=.ok v w∧nA g w v av∧Q av:=by
 unfold aBj at h
 split at h
 ·
  rename_i id off
  cases hx with
  | box _ _ b hb =>
   split at h
   ·
    rename_i cs hs
    obtain ⟨cur,e,hh,hc⟩:=hi.store id cs b hs hb
    split at h
    ·
     rename_i hag
     subst hag
     obtain ⟨hfit,hq⟩:=h
     have hcs:cur.size=cs.length:=hc.1
     have hsub:=hc.sub off n
     refine ⟨.agg (cur.extract off (off+n)),_,?_,.agg _ _ hsub.1 hsub.2,hq⟩
     have:=aEs (P:=P) (w:=w) (a:=⟨b,off,none⟩) (cur.extract off (off+n)).toList ht (by simp;omega) (fun j v hv=>by
      rw [tE,aDe hh]
      rw [dS,lL] at hv
      split at hv
      ·
       exact hv
      ·
       cases hv)
     have e1:(cur.extract off (off+n)).toList.toArray=cur.extract off (off+n):=by simp only [Array.toArray_toList]
     rw [e1] at this
     simp only [Instr.loadAt,Instr.sureAddr,Sem.run_bind,Sem.run_pure,Result.andThen_ok,this]
    ·
     rename_i hag
     have hag:ag=false:=by simpa using hag
     subst hag
     split at h
     ·
      rename_i av hav
      have hlt:=(bR.1 hav).1
      have hlt':off<cur.size:=by rw [hc.1];exact hlt
      have hcell:w.cell? ⟨b,off,none⟩=some cur[off]:=by rw [aDe hh,eQ hlt']
      exact ⟨cur[off],av,by simpa [Instr.loadAt,Instr.sureAddr] using aCJ ht hcell,hc.2 off _ av (eQ hlt') hav,h⟩
     ·
      exact h.elim
   ·
    exact h.elim
 ·
  rename_i cs off
  cases hx with
  | eptr b o _ _ vs hcell hv =>
   split at h
   ·
    rename_i hag
    subst hag
    obtain ⟨hfit,hq⟩:=h
    refine ⟨.agg ((List.range n).map fun j=>vs (off+j)).toArray,_,?_,.agg _ _ (by simp;omega) (fun i v av hiv hav=>?_),hq⟩
    ·
     have:=aEs (P:=P) (w:=w) (a:=⟨b,o+off,none⟩) ((List.range n).map fun j=>vs (off+j)) ht (by simp) (fun j v hv'=>by
      rw [bY,bV] at hv'
      obtain ⟨k,hk,rfl⟩:=hv'
      have hkl:=(bR.1 hk)
      have hk1:=hkl.1
      have hk2:=hkl.2
      simp at hk1 hk2
      subst hk2
      rw [tE,kM]
      exact (hcell (off+j) (by omega)).2)
     simpa [Instr.loadAt,Instr.sureAddr] using this
    ·
     rw [bY,bV] at hav
     obtain ⟨p,hp,rfl⟩:=hav
     rw [lZ] at hp
     split at hp
     ·
      rw [hO] at hp
      simp only [pP,bY,bV] at hiv
      obtain ⟨k,hk,rfl⟩:=hiv
      have hkl:=(bR.1 hk)
      have hk1:=hkl.1
      have hk2:=hkl.2
      simp at hk1 hk2
      subst hk2
      exact .c (hv _ p hp)
     ·
      cases hp
   ·
    rename_i hag
    have hag:ag=false:=by simpa using hag
    subst hag
    split at h
    ·
     rename_i p hp
     have hlt:=(bR.1 hp).1
     exact ⟨vs off,.c p,by simpa [Instr.loadAt,Instr.sureAddr] using aCJ ht (hcell off hlt).2,.c (hv off p hp),h⟩
    ·
     exact h.elim
 ·
  rename_i p
  obtain ⟨hag,hq⟩:=h
  subst hag
  cases hx with
  | pptr b o bk _ hI hb hc =>
   exact ⟨_,.box p.1 p.2,by simpa [Instr.loadAt,Instr.sureAddr] using aCJ ht hc,.box _ _ _ hb,hq⟩
 ·
  exact h.elim
theorem aU1 {t:TypeId}{x:Operand} (hi:tT c g w σ) (hf:yV g w a.tmps fr) (h:eG P ⟨dst,.load t x,ty,pos,after,guard⟩ fr.ev σ K):rU P c ⟨dst,.load t x,ty,pos,after,guard⟩ a.eval w g K:=by
 simp only [eG] at h
 split at h
 ·
  rename_i ag n ht
  obtain ⟨v,av,hr,hv,hk⟩:=aH9 hi ht (fK hf x) h
  exact .same hi (by simp [execOp,hr]) hv hk
 ·
  exact h.elim
theorem aTw {t:TypeId}{x y:Operand} (hi:tT c g w σ) (hf:yV g w a.tmps fr) (h:eG P ⟨dst,.store t x y,ty,pos,after,guard⟩ fr.ev σ K):rU P c ⟨dst,.store t x y,ty,pos,after,guard⟩ a.eval w g K:=by
 simp only [eG] at h
 split at h
 ·
  rename_i ag n ht
  have hx:=fK hf x
  split at h
  ·
   rename_i id off hx0
   rw [hx0] at hx
   generalize hvx:a.eval x=vx at hx
   cases hx with
   | box _ _ b hb =>
    obtain ⟨hs,hl,h⟩:=h
    split at h
    ·
     rename_i cs hcs
     obtain ⟨hfit,hk⟩:=h
     obtain ⟨cur,e,hh,hc⟩:=hi.store id cs b hcs hb
     obtain ⟨hv,h1⟩:=(fK hf y).cells hs
     have hvl:(a.eval y).cells.size=n:=hv.1.trans hl
     have hcl:cur.size=cs.length:=hc.1
     have hsp:=hc.splice hv off (by rw [hl];exact hfit)
     rw [hl] at hsp
     obtain ⟨hi',st⟩:=hi.setRow hcs hb hh hsp
     refine ⟨.skip,undef,_,.none,.any,_,g,?_,.inr ⟨rfl,rfl⟩,hk,hi',st,.any⟩
     have hst:=run_storeCells_at P b off e (a.eval y).cells.toList 0 cur w hh (by simp;omega) h1
     simp only [tA,iS] at hst
     have hne:¬((a.eval y).cells.size≠n):=by simp [hvl]
     simp [execOp,Instr.storeAt,Instr.sureAddr,hvx,storeVar,(nF ht w).2,hvl,hst]
    ·
     exact h.elim
  ·
   exact h.elim
 ·
  exact h.elim
theorem aPi {x:Operand} (hi:tT c g w σ) (hf:yV g w a.tmps fr) (h:eG P ⟨dst,.nilCheck x,ty,pos,after,guard⟩ fr.ev σ K):rU P c ⟨dst,.nilCheck x,ty,pos,after,guard⟩ a.eval w g K:=by
 simp only [eG] at h
 have hx:=fK hf x
 split at h
 ·
  rename_i i k hx0
  rw [hx0] at hx
  generalize hvx:a.eval x=vx at hx
  cases hx with
  | box _ _ b hb=>exact .same hi (by simp [execOp,hvx]) (.box _ _ b hb) h
 ·
  rename_i cs k hx0
  rw [hx0] at hx
  generalize hvx:a.eval x=vx at hx
  cases hx with
  | eptr b o _ _ vs hc hv=>exact .same hi (by simp [execOp,hvx]) (.eptr b o _ _ vs hc hv) h
 ·
  rename_i p hx0
  rw [hx0] at hx
  generalize hvx:a.eval x=vx at hx
  cases hx with
  | pptr b o bk _ hI hb hc=>exact .same hi (by simp [execOp,hvx]) (.pptr b o bk _ hI hb hc) h
 ·
  rename_i f cs hx0
  rw [hx0] at hx
  generalize hvx:a.eval x=vx at hx
  cases hx with
  | fn _ vs _ hl ha=>exact .same hi (by simp [execOp,hvx]) (.fn f vs cs hl ha) h
 ·
  exact h.elim
theorem aTr {op:BinOp}{t t2:TypeId}{x y:Operand} (hi:tT c g w σ) (hf:yV g w a.tmps fr) (h:eG P ⟨dst,.binOp op t x y t2,ty,pos,after,guard⟩ fr.ev σ K):rU P c ⟨dst,.binOp op t x y t2,ty,pos,after,guard⟩ a.eval w g K:=by
 simp only [eG] at h
 obtain ⟨v,av,hr,hv,hk⟩:=aOl h (fK hf x) (fK hf y) x y
 refine .same hi ?_ hv hk
 simp only [execOp]
 rw [Sem.run_bind,hr]
 rfl
theorem aU4 {op:UnOp}{t:TypeId}{x:Operand} (hi:tT c g w σ) (hf:yV g w a.tmps fr) (h:eG P ⟨dst,.unOp op t x,ty,pos,after,guard⟩ fr.ev σ K):rU P c ⟨dst,.unOp op t x,ty,pos,after,guard⟩ a.eval w g K:=by
 simp only [eG] at h
 have hx:=fK hf x
 split at h
 ·
  rename_i b hx0
  rw [hx0] at hx
  generalize hvx:a.eval x=vx at hx
  cases hx with
  | c hx=>cases hx;exact .same hi (v:=.bool (!b)) (by simp [execOp,hvx,Op.unary]) (.c (.bool _)) h
 ·
  rename_i k n hx0
  rw [hx0] at hx
  generalize hvx:a.eval x=vx at hx
  cases hx with
  | c hx=>cases hx;exact .same hi (v:=.int k (k.wrap (0 - n))) (by simp [execOp,hvx,Op.unary,Op.intArith]) (.c (.int _ _)) h
 ·
  exact h.elim
theorem aDS {t:TypeId}{k:IntKind} (h:aCx P t=some k):P.underlying t=some (.int k):=by
 unfold aCx at h
 cases hu:P.underlying t with
 | none=>simp [hu] at h
 | some d=>cases d <;> simp_all
theorem aIp {t:TypeId} (h:jZ P t=2):P.underlying t=some .string:=by
 unfold jZ at h
 cases hu:P.underlying t with
 | none=>simp [hu] at h
 | some d=>cases d <;> simp_all
theorem aLC {t:TypeId} (h:jZ P t=3):∃ e,P.underlying t=some (.slice e):=by
 unfold jZ at h
 cases hu:P.underlying t with
 | none=>simp [hu] at h
 | some d=>cases d <;> simp_all
theorem aQB (l:List UInt8):∀ (s:ByteArray),(l.map fun b=>(b.toNat:Int)).foldl (fun r n=>r.push (UInt8.ofNat n.toNat)) s=⟨s.data++l.toArray⟩:=by
 induction l with
 | nil=>intro s;simp
 | cons b l ih =>
  intro s
  simp only [iN,pH,ih]
  apply ByteArray.ext
  simp [ByteArray.push]
theorem aHr {s d:TypeId} (hs:eG.tyBytes P s) (hd:jZ P d=2) {v:Value}{sz:Nat}{l:List UInt8} (h:RV g.I w v (.list sz (l.map hF))):(convert s d v).run P w=.ok (.string ⟨l.toArray⟩) w:=by
 unfold eG.tyBytes at hs
 split at hs
 ·
  rename_i e hu
  have he:=aDS hs
  have hd:=aIp hd
  generalize hxs:l.map hF=xs at h
  cases h with
  | empty A cap sz =>
   have:l=[]:=by cases l <;> simp_all
   subst this
   rw [run_convert_bytes_string w s d e A 0 cap hu he hd]
   cases A <;> simp [Conv.bytesToString,loadCells,loadCellsFrom] <;> rfl
  | row b o cap sz xs vs hsz hcap hc hv =>
   subst hxs
   rw [run_convert_bytes_string w s d e _ _ cap hu he hd]
   have hcell:∀ j u,(l.map fun b=>Value.int .u8 (b.toNat:Int))[j]?=some u→w.cell? ((⟨b,o,none⟩:Addr).add j)=some u:=by
    intro j u hu'
    rw [bY,bV] at hu'
    obtain ⟨x,hx,rfl⟩:=hu'
    have hj:=(bR.1 hx).1
    have h1:sz=1:=by
     have:=hsz (hF x) (List.mem_map.2 ⟨x,dA hx,rfl⟩)
     simpa [hF] using this.symm
    subst h1
    rw [tE,(hc j (by simpa using hj)).2]
    have:=hv j 0 (hF x) (.int .u8 x.toNat) (by simp [hx]) rfl
    simp only [Nat.mul_one,tA] at this
    generalize vs j=vj at this
    cases this
    rfl
   have hl:=run_loadCells_list (P:=P) w ⟨b,o,none⟩ _ hcell
   rw [gG] at hl
   rw [gG,run_bytesToString w ⟨b,o,none⟩ l.length cap (l.map fun b=>(b.toNat:Int)) (by rw [hl,List.map_map];rfl)]
   rw [aQB]
   congr 2
   apply ByteArray.ext
   simp
 ·
  exact hs.elim
theorem aQZ {s d:TypeId}{x:Operand} (hi:tT c g w σ) (hf:yV g w a.tmps fr) (h:eG P ⟨dst,.convert s d x,ty,pos,after,guard⟩ fr.ev σ K):rU P c ⟨dst,.convert s d x,ty,pos,after,guard⟩ a.eval w g K:=by
 simp only [eG] at h
 have hx:=fK hf x
 split at h
 ·
  rename_i k n hx0
  rw [hx0] at hx
  generalize hvx:a.eval x=vx at hx
  split at h
  ·
   rename_i kd ks hd hs
   cases hx with
   | c hx =>
    cases hx
    exact .same hi (v:=.int kd (kd.wrap n)) (by simp [execOp,hvx,convert,run_underlying (aDS hd),run_underlying (aDS hs),Conv.intToInt]) (.c (.int _ _)) h
  ·
   exact h.elim
 ·
  rename_i b hx0
  rw [hx0] at hx
  generalize hvx:a.eval x=vx at hx
  obtain ⟨h1,h2,h⟩:=h
  cases hx with
  | c hx =>
   cases hx
   exact .same hi (v:=.string ⟨b.toArray⟩) (by simp [execOp,hvx,convert,run_underlying (aIp h1),run_underlying (aIp h2)]) (.c (.str _)) h
 ·
  rename_i sz xs hx0
  rw [hx0] at hx
  obtain ⟨h1,h2,l,rfl,h⟩:=h
  exact .same hi (by simp only [execOp,Sem.run_bind,aHr h1 h2 hx.c_inv,Result.andThen_ok,Sem.run_pure]) (.c (.str _)) h
 ·
  rename_i t sz xs hx0
  rw [hx0] at hx
  obtain ⟨h1,h2,l,rfl,h⟩:=h
  exact .same hi (by simp only [execOp,Sem.run_bind,aHr h1 h2 hx.own_inv.rv,Result.andThen_ok,Sem.run_pure]) (.c (.str _)) h
 ·
  rename_i hx0
  rw [hx0] at hx
  obtain ⟨h1,h2,h⟩:=h
  generalize hvx:a.eval x=vx at hx
  cases hx
  have:=aHr (g:=g) (w:=w) (l:=[]) (sz:=1) h1 h2 (.empty .none 0 1)
  exact .same hi (by simp only [execOp,hvx,Sem.run_bind,this,Result.andThen_ok,Sem.run_pure]) (.c (.str _)) h
 ·
  exact h.elim
theorem aPh {fn:Fn}{first captured:Array Operand} (hi:tT c g w σ) (hf:yV g w a.tmps fr) (h:eG P ⟨dst,.makeFunc fn first captured,ty,pos,after,guard⟩ fr.ev σ K):rU P c ⟨dst,.makeFunc fn first captured,ty,pos,after,guard⟩ a.eval w g K:=by
 cases fn <;> simp only [eG] at h
 rename_i f
 obtain ⟨rfl,h⟩:=h
 refine .same hi (v:=.func (.func f) #[] (captured.map a.eval)) (by simp [execOp,Instr.makeFunc]) (.fn f _ _ (by simp) (fun i v av hv hav=>?_)) h
 rw [Array.getElem?_map,bV] at hv
 obtain ⟨y,hy,rfl⟩:=hv
 rw [bY,dS,hy] at hav
 simp at hav
 subst hav
 exact fK hf y
theorem aDR {t:TypeId}{f k n:Nat}{ag:Bool} (h:eH P t f=some (k,ag,n)):∃ fs x,P.underlying t=some (.struct fs)∧fs[f]?=some x∧x.offset=k∧kX P x.type=some (ag,n)∧n≠0:=by
 unfold eH aCw at h
 cases hu:P.underlying t with
 | none=>simp [hu] at h
 | some d =>
  cases d <;> simp only [hu] at h <;> try (cases h;done)
  rename_i fs
  cases hx:fs[f]? with
  | none=>simp [hx] at h
  | some x =>
   simp only [hx] at h
   cases hv:kX P x.type with
   | none=>simp [hv] at h
   | some p =>
    obtain ⟨ag',n'⟩:=p
    simp only [hv] at h
    split at h
    ·
     cases h
    ·
     rename_i hn
     simp only [dB,mT] at h
     obtain ⟨rfl,rfl,rfl⟩:=h
     exact ⟨fs,x,rfl,hx,rfl,hv,hn⟩
theorem aNR {t:TypeId}{x:Operand}{f:Nat} (hi:tT c g w σ) (hf:yV g w a.tmps fr) (h:eG P ⟨dst,.fieldAddr t x f,ty,pos,after,guard⟩ fr.ev σ K):rU P c ⟨dst,.fieldAddr t x f,ty,pos,after,guard⟩ a.eval w g K:=by
 simp only [eG] at h
 split at h
 ·
  rename_i k ag n ht
  obtain ⟨fs,y,hu,hy,rfl,hv,hn⟩:=aDR ht
  have hx:=fK hf x
  have hrun:∀ b o,(Instr.fieldAt t (.pointer (some ⟨b,o,none⟩)) f).run P w=.ok (.pointer (some ⟨b,o+y.offset,none⟩)) w:=by
   intro b o
   simp [Instr.fieldAt,run_underlying hu,hy,Instr.sureAddr,fieldPlace,(nF hv w).2,hn,tE]
  split at h
  ·
   rename_i id off hx0
   rw [hx0] at hx
   generalize hvx:a.eval x=vx at hx
   cases hx with
   | box _ _ b hb=>exact .same hi (by simp only [execOp,hvx,Sem.run_bind,hrun,Result.andThen_ok,Sem.run_pure]) (.box _ _ b hb) h
  ·
   rename_i cs off hx0
   rw [hx0] at hx
   generalize hvx:a.eval x=vx at hx
   cases hx with
   | eptr b o _ _ vs hc hv=>exact .same hi (v:=.pointer (some ⟨b,o+(off+y.offset),none⟩)) (by simp only [execOp,hvx,Sem.run_bind,hrun,Result.andThen_ok,Sem.run_pure,kM]) (.eptr b o _ _ vs hc hv) h
  ·
   exact h.elim
 ·
  exact h.elim
theorem aTt {t:TypeId}{x:Operand}{f:Nat} (hi:tT c g w σ) (hf:yV g w a.tmps fr) (h:eG P ⟨dst,.field t x f,ty,pos,after,guard⟩ fr.ev σ K):rU P c ⟨dst,.field t x f,ty,pos,after,guard⟩ a.eval w g K:=by
 simp only [eG] at h
 split at h
 ·
  rename_i k ag n ht
  obtain ⟨fs,y,hu,hy,rfl,hv,hn⟩:=aDR ht
  have hx:=fK hf x
  split at h
  ·
   rename_i cs hx0
   rw [hx0] at hx
   generalize hvx:a.eval x=vx at hx
   cases hx with
   | agg vs _ hl ha =>
    have hrun:(Instr.field t (.agg vs) f).run P w=(part y.type vs y.offset).run P w:=by simp [Instr.field,run_underlying hu,hy,asAgg]
    split at h
    ·
     rename_i hag
     subst hag
     obtain ⟨hfit,h⟩:=h
     have hsub:=gB.sub (g:=g) (w:=w) ⟨hl,ha⟩ y.offset n
     exact .same hi (v:=.agg (vs.extract y.offset (y.offset+n))) (by simp [execOp,hvx,hrun,part,(nF hv w).1,(nF hv w).2]) (.agg _ _ hsub.1 hsub.2) h
    ·
     rename_i hag
     have hag:ag=false:=by simpa using hag
     subst hag
     split at h
     ·
      rename_i av hav
      have hlt:y.offset<vs.size:=by rw [hl];exact (bR.1 hav).1
      exact .same hi (v:=vs[y.offset]) (by simp [execOp,hvx,hrun,part,(nF hv w).1,hlt]) (ha _ _ _ (eQ hlt) hav) h
     ·
      exact h.elim
  ·
   exact h.elim
 ·
  exact h.elim
theorem aLr {v:Value}{sz:Nat}{xs:List (List PV)} (h:RV g.I w v (.list sz xs)) (i:Nat) (row:List PV) (hr:xs[i]?=some row):∃ b o cap,v=.slice (some ⟨b,o,none⟩) xs.length cap∧nA g w (.pointer (some ⟨b,o+i*sz,none⟩)) (.eptr row 0):=by
 cases h with
 | empty A cap sz=>simp at hr
 | row b o cap sz xs vs hs hcap hc hv =>
  refine ⟨b,o,cap,rfl,?_⟩
  have hi:=(bR.1 hr).1
  have hl:=hs row (dA hr)
  have:=nA.eptr (g:=g) (w:=w) b (o+i*sz) 0 row (fun j=>vs (i*sz+j)) (fun j hj=>?_) (fun j p hp=>hv i j row p hr hp)
  ·
   exact this
  ·
   have hle:(i+1)*sz≤xs.length*sz:=gZ _ hi
   rw [fO] at hle
   have:=hc (i*sz+j) (by omega)
   rwa [← kM] at this
theorem aNS {t:TypeId}{x ix:Operand} (hi:tT c g w σ) (hf:yV g w a.tmps fr) (h:eG P ⟨dst,.indexAddr t x ix,ty,pos,after,guard⟩ fr.ev σ K):rU P c ⟨dst,.indexAddr t x ix,ty,pos,after,guard⟩ a.eval w g K:=by
 simp only [eG] at h
 split at h
 ·
  rename_i e sz bytes ht
  obtain ⟨hu,i,z,hin,_,_,_,hsz,_⟩:=vR ht
  have hx:=fK hf x
  have hix:=fK hf ix
  split at h
  ·
   rename_i k n hix0
   rw [hix0] at hix
   generalize hvix:a.eval ix=vix at hix
   cases hix with
   | c hix =>
    cases hix
    have hrun:∀ b o (len cap:Nat),0≤n→n<len→(Instr.indexAt t (.slice (some ⟨b,o,none⟩) len cap) (.int k n)).run P w=.ok (.pointer (some ⟨b,o+n.toNat*sz,none⟩)) w:=by
     intro b o len cap h0 h1
     simp [Instr.indexAt,asIntOf,run_underlying hu,h0,h1,sizeOf,typeInfo,hin,hsz,tE]
    split at h
    ·
     rename_i sz' xs hx0
     rw [hx0] at hx
     obtain ⟨rfl,h0,h1,h⟩:=h
     have hlt:n.toNat<xs.length:=by omega
     ·
      obtain ⟨b,o,cap,hv,hr⟩:=aLr hx.c_inv n.toNat _ (aM hlt)
      exact .same hi (by simp only [execOp,hvix,hv,Sem.run_bind,hrun b o xs.length cap h0 h1,Result.andThen_ok,Sem.run_pure]) hr (h _ (aM hlt))
    ·
     rename_i t0 sz' xs hx0
     rw [hx0] at hx
     obtain ⟨rfl,h0,h1,h⟩:=h
     have hlt:n.toNat<xs.length:=by omega
     ·
      obtain ⟨b,o,cap,hv,hr⟩:=aLr hx.own_inv.rv n.toNat _ (aM hlt)
      exact .same hi (by simp only [execOp,hvix,hv,Sem.run_bind,hrun b o xs.length cap h0 h1,Result.andThen_ok,Sem.run_pure]) hr (h _ (aM hlt))
    ·
     rename_i l hx0
     rw [hx0] at hx
     obtain ⟨rfl,h0,h1,h⟩:=h
     have hlt:n.toNat<l.length:=by omega
     generalize hvx:a.eval x=vx at hx
     cases hx with
     | ptrs b o cap _ hcap hc =>
      obtain ⟨hI,bk,hb,hcl⟩:=hc n.toNat _ (aM hlt)
      refine .same hi (v:=.pointer (some ⟨b,o+n.toNat*1,none⟩)) (by simp only [execOp,hvix,hvx,Sem.run_bind,hrun b o l.length cap h0 h1,Result.andThen_ok,Sem.run_pure]) ?_ (h _ (aM hlt))
      rw [Nat.mul_one]
      exact .pptr b _ bk _ hI hb hcl
    ·
     exact h.elim
  ·
   exact h.elim
 ·
  exact h.elim
theorem aTu {t:TypeId}{x ix:Operand} (hi:tT c g w σ) (hf:yV g w a.tmps fr) (h:eG P ⟨dst,.index t x ix,ty,pos,after,guard⟩ fr.ev σ K):rU P c ⟨dst,.index t x ix,ty,pos,after,guard⟩ a.eval w g K:=by
 simp only [eG] at h
 obtain ⟨h2,h⟩:=h
 have hx:=fK hf x
 have hix:=fK hf ix
 split at h
 ·
  rename_i s k n hx0 hix0
  rw [hx0] at hx
  rw [hix0] at hix
  generalize hvix:a.eval ix=vix at hix
  generalize hvx:a.eval x=vx at hx
  obtain ⟨h0,h1,h⟩:=h
  cases hix with
  | c hix =>
   cases hix
   cases hx with
   | c hx =>
    cases hx
    have hlt:n.toNat<s.length:=by omega
    have hb:(⟨s.toArray⟩:ByteArray)[n.toNat]?=some s[n.toNat]:=by
     rw [getElem?_pos (⟨s.toArray⟩:ByteArray) n.toNat (by simpa [ByteArray.size] using hlt)]
     rfl
    exact .same hi (v:=.int .u8 (s[n.toNat]).toNat) (by simp [execOp,hvix,hvx,Instr.index,asIntOf,run_underlying (aIp h2),h0,hb]) (.c (.int _ _)) (h _ (aM hlt))
 ·
  exact h.elim
theorem aQ0 {x:Operand}{i:Nat} (hi:tT c g w σ) (hf:yV g w a.tmps fr) (h:eG P ⟨dst,.extract x i,ty,pos,after,guard⟩ fr.ev σ K):rU P c ⟨dst,.extract x i,ty,pos,after,guard⟩ a.eval w g K:=by
 simp only [eG] at h
 have hx:=fK hf x
 split at h
 ·
  rename_i cs hx0
  rw [hx0] at hx
  generalize hvx:a.eval x=vx at hx
  cases hx with
  | tup vs _ hl ha =>
   split at h
   ·
    rename_i av hav
    have hlt:i<vs.size:=by rw [hl];exact (bR.1 hav).1
    exact .same hi (v:=vs[i]) (by simp [execOp,hvx,Instr.extract,hlt]) (ha _ _ _ (eQ hlt) hav) h
   ·
    exact h.elim
 ·
  exact h.elim
end
section
variable {P:Program}{c:Ctx}{g:G}{w:World}{σ:St}{K:Option (Nat→Bool)→AV→St→Prop}{a:Act}{fr:Fr}{dst:Option Tmp}{ty:TypeId}{pos:String}{after:Array Edge}{guard:Option (Nat × Bool)}
theorem aAX {t:TypeId} (A:Option Addr) (n cap:Nat) (h3:jZ P t=3):(Builtin.len_ #[t] ty #[.slice A n cap]).run P w=.ok (.int .i64 n) w:=by
 obtain ⟨e,he⟩:=aLC h3
 simp [Builtin.len_,run_underlying he,goInt]
theorem aOq {t:TypeId}{x:AV}{vx:Value}{Q:AV→Prop} (hx:nA g w vx x) (h:aHm (jZ P t) x Q) :
  ∃ v av,(Builtin.len_ #[t] ty #[vx]).run P w=.ok v w∧nA g w v av∧Q av:=by
 unfold aHm at h
 split at h
 ·
  obtain ⟨h3,h⟩:=h
  have hx:=hx.c_inv
  cases hx with
  | empty A cap sz=>exact ⟨_,_,aAX A 0 cap h3,.c (.int _ _),h⟩
  | row b o cap sz xs vs hs hcap hc hv=>exact ⟨_,_,aAX _ _ cap h3,.c (.int _ _),h⟩
 ·
  obtain ⟨h3,h⟩:=h
  have hx:=hx.own_inv
  obtain ⟨_,_,e,cells,ho,_⟩:=hx
  rcases ho.2 with ⟨rfl,hn⟩ | ⟨b,cap,cur,rfl,_⟩
  ·
   rw [hn] at h
   exact ⟨_,_,aAX .none 0 0 h3,.c (.int _ _),h⟩
  ·
   exact ⟨_,_,aAX _ _ cap h3,.c (.int _ _),h⟩
 ·
  obtain ⟨h3,h⟩:=h
  cases hx
  exact ⟨_,_,aAX .none 0 0 h3,.c (.int _ _),h⟩
 ·
  rename_i s
  obtain ⟨h2,h⟩:=h
  have hx:=hx.c_inv
  cases hx with
  | str s =>
   have hu:=aIp h2
   exact ⟨.int .i64 s.length,_,by simp [Builtin.len_,run_underlying hu,goInt,aDn],.c (.int _ _),h⟩
 ·
  obtain ⟨h3,h⟩:=h
  cases hx with
  | ptrs b o cap l hcap hc=>exact ⟨_,_,aAX _ _ cap h3,.c (.int _ _),h⟩
 ·
  exact h.elim
theorem yI (b:Builtin) (args:Array Operand) (argTypes:Array TypeId) (ev:Operand→Value) :
  ∃ cs,execOp ev ⟨dst,.call { callee:=.builtin b,args,argTypes },ty,pos,after,guard⟩=builtin b argTypes ty cs (args.map ev):=by
 refine ⟨args.map fun x=>match x with | .const _=>true | _=>false,?_⟩
 simp only [execOp,resolve,pure_bind,invoke]
 rfl
theorem aLq {α:Type}{xs:Array α}{x y:α} (h:xs.toList=[x,y]):xs=#[x,y]:=by cases xs;simp_all
theorem aPM {α:Type}{xs:Array α}{x:α} (h:xs.toList=[x]):xs=#[x]:=by cases xs;simp_all
theorem aVF {args:Array Operand}{argTypes:Array TypeId} (hi:tT c g w σ) (hf:yV g w a.tmps fr) (h:eG P ⟨dst,.call { callee:=.builtin .len,args,argTypes },ty,pos,after,guard⟩ fr.ev σ K) :
  rU P c ⟨dst,.call { callee:=.builtin .len,args,argTypes },ty,pos,after,guard⟩ a.eval w g K:=by
 simp only [eG] at h
 split at h
 ·
  rename_i x t hx ht
  obtain rfl:=aPM hx
  obtain rfl:=aPM ht
  obtain ⟨v,av,hr,hv,hk⟩:=aOq (ty:=ty) (fK hf x) h
  refine .same hi ?_ hv hk
  obtain ⟨cs,hcs⟩:=yI (dst:=dst) (ty:=ty) (pos:=pos) (after:=after) (guard:=guard) .len #[x] #[t] a.eval
  rw [hcs]
  simp only [builtin,Sem.run_bind,List.map_toArray,iN,sZ,hr,Result.andThen_ok,Sem.run_pure]
 ·
  exact h.elim
theorem aVG {args:Array Operand}{argTypes:Array TypeId} (hi:tT c g w σ) (hf:yV g w a.tmps fr) (h:eG P ⟨dst,.call { callee:=.builtin .max,args,argTypes },ty,pos,after,guard⟩ fr.ev σ K) :
  rU P c ⟨dst,.call { callee:=.builtin .max,args,argTypes },ty,pos,after,guard⟩ a.eval w g K:=by
 simp only [eG] at h
 split at h
 ·
  rename_i x y hx
  obtain rfl:=aLq hx
  have hvx:=fK hf x
  have hvy:=fK hf y
  split at h
  ·
   rename_i k n k' m e1 e2
   rw [e1] at hvx
   rw [e2] at hvy
   generalize h1:a.eval x=vx at hvx
   generalize h2:a.eval y=vy at hvy
   cases hvx.c_inv
   cases hvy.c_inv
   refine .same hi (v:=.int k (if m > n then m else n)) ?_ (.c (.int _ _)) h
   obtain ⟨cs,hcs⟩:=yI (dst:=dst) (ty:=ty) (pos:=pos) (after:=after) (guard:=guard) .max #[x,y] argTypes a.eval
   rw [hcs]
   simp [builtin,h1,h2,Builtin.max_,Builtin.max2]
  ·
   exact h.elim
 ·
  exact h.elim
theorem aVH {args:Array Operand}{argTypes:Array TypeId} (hi:tT c g w σ) (hf:yV g w a.tmps fr) (h:eG P ⟨dst,.call { callee:=.builtin .min,args,argTypes },ty,pos,after,guard⟩ fr.ev σ K) :
  rU P c ⟨dst,.call { callee:=.builtin .min,args,argTypes },ty,pos,after,guard⟩ a.eval w g K:=by
 simp only [eG] at h
 split at h
 ·
  rename_i x y hx
  obtain rfl:=aLq hx
  have hvx:=fK hf x
  have hvy:=fK hf y
  split at h
  ·
   rename_i k n k' m e1 e2
   rw [e1] at hvx
   rw [e2] at hvy
   generalize h1:a.eval x=vx at hvx
   generalize h2:a.eval y=vy at hvy
   cases hvx.c_inv
   cases hvy.c_inv
   refine .same hi (v:=.int k (if m<n then m else n)) ?_ (.c (.int _ _)) h
   obtain ⟨cs,hcs⟩:=yI (dst:=dst) (ty:=ty) (pos:=pos) (after:=after) (guard:=guard) .min #[x,y] argTypes a.eval
   rw [hcs]
   simp [builtin,h1,h2,Builtin.min_,Builtin.min2]
  ·
   exact h.elim
 ·
  exact h.elim
theorem aEr (d:Tmp):qP (some d) (sQ (some d))=true:=by simp [qP,sQ]
theorem aSB {args:Array Operand}{argTypes:Array TypeId} (hd:dst.isSome=true) (hi:tT c g w σ) (hf:yV g w a.tmps fr) (h:eG P ⟨dst,.call { callee:=.builtin .append,args,argTypes },ty,pos,after,guard⟩ fr.ev σ K) :
  rU P c ⟨dst,.call { callee:=.builtin .append,args,argTypes },ty,pos,after,guard⟩ a.eval w g K:=by
 simp only [eG] at h
 obtain ⟨d,rfl⟩:=jS.1 hd
 split at h
 ·
  rename_i s x t tx hargs hty
  obtain rfl:=aLq hargs
  obtain rfl:=aLq hty
  have hs:=fK hf s
  have hx:=fK hf x
  unfold wT at h
  split at h
  ·
   rename_i e sz bytes hts
   obtain ⟨hb0,h⟩:=h
   have common:∀ (f:Nat→Bool) (xs ys:List (List PV)) (news:List Value) (d':TypeDesc),f (sQ (some d))=true→P.underlying tx=some d'→(d'=.string∨∃ e1,d'=.slice e1) →
     ((a.eval s=.slice none 0 0∧xs=[])∨∃ t0,f t0=true∧aMK g w (a.eval s) t0 sz xs)→Src P w sz (a.eval x) ys.length news →
     (∀ (i j:Nat) (x:List PV) (p:PV),ys[i]?=some x→x[j]?=some p→∃ u,news[i*sz+j]?=some u∧RV g.I w u p)→(∀ y∈ys,y.length=sz)→(xs.length+ys.length)*bytes≤140737488355328 →
     K (some f) (.own (sQ (some d)) sz (xs++ys)) (σ.dem f)→rU P c ⟨some d,.call { callee:=.builtin .append,args:=#[s,x],argTypes:=#[t,tx] },ty,pos,after,guard⟩ a.eval w g K:=by
    intro f xs ys news d' hfT hu hd' hv hsrc hn hrows hbytes hk
    have h63:xs.length+ys.length≤9223372036854775807:=by
     have:=Nat.le_mul_of_pos_right (xs.length+ys.length) hb0
     omega
    obtain ⟨v',w',g',hr,hi',st,hrv⟩:=aGr hi f (sQ (some d)) hfT (ty:=ty) hts hu hd' hv hsrc hn hrows hbytes h63
    refine ⟨_,v',w',_,_,_,g',?_,.inl rfl,hk,hi',st,hrv⟩
    obtain ⟨cs,hcs⟩:=yI (dst:=some d) (ty:=ty) (pos:=pos) (after:=after) (guard:=guard) .append #[s,x] #[t,tx] a.eval
    rw [hcs]
    simp only [builtin,Sem.run_bind,List.map_toArray,iN,sZ,hr,Result.andThen_ok,Sem.run_pure]
   have src:∀ (f:Nat→Bool) (xs:List (List PV)),f (sQ (some d))=true→((a.eval s=.slice none 0 0∧xs=[])∨∃ t0,f t0=true∧aMK g w (a.eval s) t0 sz xs) →
     (match fr.ev x with
      | .c (.list sz' ys)=>sz'=sz∧jZ P tx=3∧(∀ y∈ys,y.length=sz)∧(xs.length+ys.length)*bytes≤140737488355328∧K (some f) (.own (sQ (some d)) sz (xs++ys)) (σ.dem f)
      | .own _ sz' ys=>sz'=sz∧jZ P tx=3∧(∀ y∈ys,y.length=sz)∧(xs.length+ys.length)*bytes≤140737488355328∧K (some f) (.own (sQ (some d)) sz (xs++ys)) (σ.dem f)
      | .nil=>jZ P tx=3∧xs.length*bytes≤140737488355328∧K (some f) (.own (sQ (some d)) sz xs) (σ.dem f)
      | .c (.str b)=>sz=1∧jZ P tx=2∧(xs.length+b.length)*bytes≤140737488355328∧K (some f) (.own (sQ (some d)) 1 (xs++b.map hF)) (σ.dem f)
      | _=>False)→rU P c ⟨some d,.call { callee:=.builtin .append,args:=#[s,x],argTypes:=#[t,tx] },ty,pos,after,guard⟩ a.eval w g K:=by
    intro f xs hfT hv h
    split at h
    ·
     rename_i sz' ys hx0
     rw [hx0] at hx
     obtain ⟨rfl,h3,hrows,hbytes,hk⟩:=h
     obtain ⟨e1,he⟩:=aLC h3
     obtain ⟨news,hsrc,hn⟩:=Src.list (P:=P) hx.c_inv
     exact common f xs ys news _ hfT he (.inr ⟨e1,rfl⟩) hv hsrc hn hrows hbytes hk
    ·
     rename_i t1 sz' ys hx0
     rw [hx0] at hx
     obtain ⟨rfl,h3,hrows,hbytes,hk⟩:=h
     obtain ⟨e1,he⟩:=aLC h3
     obtain ⟨news,hsrc,hn⟩:=Src.list (P:=P) hx.own_inv.rv
     exact common f xs ys news _ hfT he (.inr ⟨e1,rfl⟩) hv hsrc hn hrows hbytes hk
    ·
     rename_i hx0
     rw [hx0] at hx
     obtain ⟨h3,hbytes,hk⟩:=h
     obtain ⟨e1,he⟩:=aLC h3
     have hx':RV g.I w (a.eval x) (.list sz []):=by
      generalize a.eval x=vx at hx
      cases hx
      exact .empty .none 0 sz
     obtain ⟨news,hsrc,hn⟩:=Src.list (P:=P) hx'
     exact common f xs [] news _ hfT he (.inr ⟨e1,rfl⟩) hv hsrc hn (by simp) (by simpa using hbytes) (by simpa using hk)
    ·
     rename_i b hx0
     rw [hx0] at hx
     obtain ⟨rfl,h2,hbytes,hk⟩:=h
     have hxs:=hx.c_inv
     generalize hvx:a.eval x=vx at hxs
     cases hxs
     obtain ⟨news,hsrc,hn⟩:=Src.str (P:=P) (w:=w) (I:=g.I) b
     rw [← hvx] at hsrc
     have hl:(b.map hF).length=b.length:=by simp
     exact common f xs (b.map hF) news _ hfT (aIp h2) (.inl rfl) hv (by rw [hl];exact hsrc) hn (by intro y hy;obtain ⟨z,_,rfl⟩:=List.mem_map.1 hy;rfl) (by rw [hl];exact hbytes) hk
    ·
     exact h.elim
   split at h
   ·
    rename_i hs0
    rw [hs0] at hs
    refine src (qP (some d)) [] (aEr d) (.inl ⟨?_,rfl⟩) ?_
    ·
     generalize a.eval s=vs at hs
     cases hs
     rfl
    ·
     revert h
     simp only [iC,jO,jF,Nat.zero_mul]
     exact id
   ·
    rename_i t0 sz' xs hs0
    rw [hs0] at hs
    obtain ⟨rfl,h⟩:=h
    exact src (fun t=>qP (some d) t||t==t0) xs (by simp [aEr]) (.inr ⟨t0,by simp,hs.own_inv⟩) h
   ·
    exact h.elim
  ·
   exact h.elim
 ·
  exact h.elim
theorem aAI {k:IntKind}{n:Int}{y:Nat}{code:BoundsCode} (h0:0≤n) (h1:n≤y):(Instr.sliceBound (.int k n) y code).run P w=.ok n.toNat w:=by
 simp [Instr.sliceBound,asIntOf,h0,h1]
theorem aTv {t:TypeId}{x:Operand}{lo hi':Option Operand} (hi:tT c g w σ) (hf:yV g w a.tmps fr) (h:eG P ⟨dst,.slice t x lo hi' .none,ty,pos,after,guard⟩ fr.ev σ K) :
  rU P c ⟨dst,.slice t x lo hi' .none,ty,pos,after,guard⟩ a.eval w g K:=by
 simp only [eG] at h
 obtain ⟨h7,h⟩:=h
 have hx:=fK hf x
 have bnd:∀ (isS:Bool) (len cap:Nat) (Q:Nat→Nat→Prop),len≤cap →
   tD (lo.map fr.ev) (hi'.map fr.ev) len Q→∃ l h,l≤h∧h≤len∧(Instr.sliceBounds isS len cap (lo.map a.eval) (hi'.map a.eval) .none).run P w=.ok (l,h,cap) w∧Q l h:=by
  intro isS len cap Q hlc hq
  unfold tD at hq
  cases lo with
  | none =>
   cases hi' with
   | none=>exact ⟨0,len,Nat.zero_le _,eP _,by simp [Instr.sliceBounds],hq⟩
   | some hh =>
    simp only [rX,eO] at hq ⊢
    split at hq
    all_goals try (simp_all;done)
    rename_i k n e1 e2
    have hv:=fK hf hh
    simp only [dB] at e2
    rw [e2] at hv
    generalize hvh:a.eval hh=vh at hv
    cases hv.c_inv
    obtain ⟨h0,h1,hq⟩:=hq
    exact ⟨0,n.toNat,Nat.zero_le _,by omega,by simp [Instr.sliceBounds,hvh,aAI h0 (show n≤(cap:Int) by omega)],hq⟩
  | some ll =>
   cases hi' with
   | none =>
    simp only [rX,eO] at hq ⊢
    split at hq
    all_goals try (simp_all;done)
    rename_i k n e1 e2
    have hv:=fK hf ll
    simp only [dB] at e1
    rw [e1] at hv
    generalize hvl:a.eval ll=vl at hv
    cases hv.c_inv
    obtain ⟨h0,h1,hq⟩:=hq
    exact ⟨n.toNat,len,by omega,eP _,by simp [Instr.sliceBounds,hvl,aAI h0 h1],hq⟩
   | some hh =>
    simp only [eO] at hq ⊢
    split at hq
    all_goals try (simp_all;done)
    rename_i k n k' m e1 e2
    have hv:=fK hf ll
    have hv2:=fK hf hh
    simp only [dB] at e1 e2
    rw [e1] at hv
    rw [e2] at hv2
    generalize hvl:a.eval ll=vl at hv
    generalize hvh:a.eval hh=vh at hv2
    cases hv.c_inv
    cases hv2.c_inv
    obtain ⟨h0,h1,h2,hq⟩:=hq
    exact ⟨n.toNat,m.toNat,by omega,by omega,by simp [Instr.sliceBounds,hvl,hvh,aAI (show (0:Int)≤m by omega) (show m≤(cap:Int) by omega),aAI h0 (show n≤((m.toNat:Nat):Int) by omega)],hq⟩
 have slc:∀ (sz:Nat) (xs:List (List PV)) (e:TypeId) (bytes:Nat),lV P t=some (e,sz,bytes)→RV g.I w (a.eval x) (.list sz xs) →
   tD (lo.map fr.ev) (hi'.map fr.ev) xs.length (fun l h=>K .none (.c (.list sz ((xs.take h).drop l))) σ)→rU P c ⟨dst,.slice t x lo hi' .none,ty,pos,after,guard⟩ a.eval w g K:=by
  intro sz xs e bytes hts hv hk
  obtain ⟨hu,i,z,hin,_,_,_,hsz,_⟩:=vR hts
  have hsize:(sizeOf e).run P w=.ok sz w:=by simp [sizeOf,typeInfo,hin,hsz]
  generalize hvx:a.eval x=vx at hv
  cases hv with
  | empty A cap sz =>
   obtain ⟨l,h,hlh,hhl,hr,hq⟩:=bnd true 0 cap (fun l h=>K .none (.c (.list sz ((([]:List (List PV)).take h).drop l))) σ) (Nat.zero_le _) hk
   obtain rfl:h=0:=by simpa using hhl
   obtain rfl:l=0:=by omega
   refine .same hi (v:=.slice (if cap=0 then A else A.map (·.add (0*sz))) (0 - 0) (cap - 0)) ?_ (.c (.empty _ _ sz)) (by simpa using hq)
   simp only [execOp,hvx,Instr.sliceAt,Sem.run_bind,run_underlying hu,Result.andThen_ok,rX,Instr.slice,hr,hsize,Sem.run_pure]
  | row b o cap sz xs vs hs hcap hc hvv =>
   obtain ⟨l,h,hlh,hhl,hr,hq⟩:=bnd true xs.length cap (fun l h=>K .none (.c (.list sz ((xs.take h).drop l))) σ) hcap hk
   have hrun:(execOp a.eval ⟨dst,.slice t x lo hi' .none,ty,pos,after,guard⟩).run P w=.ok (.value (.slice (if cap=l then some ⟨b,o,none⟩ else (some ⟨b,o,none⟩:Option Addr).map (·.add (l*sz))) (h - l) (cap - l))) w:=by
    simp only [execOp,hvx,Instr.sliceAt,Sem.run_bind,run_underlying hu,Result.andThen_ok,rX,Instr.slice,hr,hsize,Sem.run_pure]
   have hlen:((xs.take h).drop l).length=h - l:=by simp;omega
   refine .same hi hrun (.c ?_) hq
   by_cases hcl:cap=l
   ·
    have h0:h - l=0:=by omega
    have:(xs.take h).drop l=[]:=eM (by omega)
    rw [this,h0]
    exact .empty _ _ sz
   ·
    rw [aY hcl,← hlen]
    simp only [eO,tE]
    refine .row b (o+l*sz) (cap - l) sz _ (fun j=>vs (l*sz+j)) (fun y hy=>hs y (lA (mF hy))) (by omega) (fun j hj=>?_) (fun i' j y p hy hp=>?_)
    ·
     rw [hlen] at hj
     have h1:l*sz+(h - l)*sz=h*sz:=by rw [← fO];congr 1;omega
     have h2:h*sz≤xs.length*sz:=gZ _ hhl
     have:=hc (l*sz+j) (by omega)
     rwa [← kM] at this
    ·
     rw [hO,lZ] at hy
     split at hy
     ·
      have:=hvv (l+i') j y p hy hp
      rwa [fO,kM] at this
     ·
      cases hy
 unfold aCZ at h
 split at h
 ·
  rename_i s hx0
  rw [hx0] at hx
  obtain ⟨h2,h⟩:=h
  have hu:=aIp h2
  have hxs:=hx.c_inv
  generalize hvx:a.eval x=vx at hxs
  cases hxs
  obtain ⟨l,h',hlh,hhl,hr,hq⟩:=bnd false s.length s.length (fun l h=>K .none (.c (.str ((s.take h).drop l))) σ) (eP _) h
  refine .same hi (v:=.string ⟨((s.take h').drop l).toArray⟩) ?_ (.c (.str _)) hq
  have hex:(⟨s.toArray⟩:ByteArray).extract l h'=⟨((s.take h').drop l).toArray⟩:=by
   apply ByteArray.ext
   simp [ByteArray.data_extract,oF]
  simp only [execOp,hvx,Instr.sliceAt,Sem.run_bind,run_underlying hu,Result.andThen_ok,rX,Instr.slice,aDn,hr,hex,Sem.run_pure,Option.isSome_none,jN,dZ]
 ·
  rename_i sz xs hx0
  rw [hx0] at hx
  split at h
  ·
   rename_i e n bytes hts
   obtain ⟨rfl,h⟩:=h
   exact slc _ xs e bytes hts hx.c_inv h
  ·
   exact h.elim
 ·
  rename_i t0 sz xs hx0
  rw [hx0] at hx
  split at h
  ·
   rename_i e n bytes hts
   obtain ⟨rfl,h⟩:=h
   exact slc _ xs e bytes hts hx.own_inv.rv h
  ·
   exact h.elim
 ·
  exact h.elim
theorem aMW {o:Oper} (hd:o.dst.isSome=true∨∃ t x y,o.op=.store t x y) (hi:tT c g w σ) (hf:yV g w a.tmps fr) (h:eG P o fr.ev σ K):rU P c o a.eval w g K:=by
 obtain ⟨dst,op,ty,pos,after,guard⟩:=o
 cases op
 case move x=>exact aU2 hi hf h
 case assign x=>exact aSC hi hf h
 case pick x p q=>exact aU3 hi hf h
 case alloc e=>exact aTq hi hf h
 case box e x=>exact aVE hi hf h
 case build t parts=>exact aTs hi hf h
 case buildSlice t len parts=>exact aMk hi hf h (hd.resolve_right (by rintro ⟨_,_,_,h⟩;cases h))
 case load t x=>exact aU1 hi hf h
 case store t x y=>exact aTw hi hf h
 case nilCheck x=>exact aPi hi hf h
 case binOp op t x y t2=>exact aTr hi hf h
 case unOp op t x=>exact aU4 hi hf h
 case convert s d x=>exact aQZ hi hf h
 case makeFunc fn first captured=>exact aPh hi hf h
 case slice t x lo hi' mx =>
  cases mx with
  | none=>exact aTv hi hf h
  | some m=>exact (by simp only [eG] at h)
 case fieldAddr t x f=>exact aNR hi hf h
 case field t x f=>exact aTt hi hf h
 case indexAddr t x ix=>exact aNS hi hf h
 case index t x ix=>exact aTu hi hf h
 case extract x i=>exact aQ0 hi hf h
 case call c =>
  obtain ⟨callee,args,argTypes⟩:=c
  cases callee with
  | builtin b =>
   cases b
   case len=>exact aVF hi hf h
   case append=>exact aSB (hd.resolve_right (by rintro ⟨_,_,_,h⟩;cases h)) hi hf h
   case max=>exact aVG hi hf h
   case min=>exact aVH hi hf h
   all_goals exact (by simp only [eG] at h)
  | _=>exact (by simp only [eG] at h)
 all_goals exact (by simp only [eG] at h)
end
def aKg (P:Program) (t:TypeId):Option (TypeId × Nat × Nat × Bool) :=
 match P.underlying t with
 | some (.array n e)=>(match kX P e with | some (ag,sz)=>some (e,sz,n,ag) | _=>.none)
 | _=>.none
theorem aCv {P:Program}{t e:TypeId}{sz n:Nat}{ag:Bool} (h:aKg P t=some (e,sz,n,ag)):P.underlying t=some (.array n e)∧kX P e=some (ag,sz):=by
 unfold aKg at h
 split at h
 ·
  rename_i n' e' hu
  split at h
  ·
   rename_i ag' sz' hv
   simp only [dB,mT] at h
   obtain ⟨rfl,rfl,rfl,rfl⟩:=h
   exact ⟨hu,hv⟩
  ·
   cases h
 ·
  cases h
theorem aEq {α:Type}{sz:Nat}:∀ {xs:List (List α)},(∀ x∈xs,x.length=sz)→∀ {j:Nat}{p:α},xs.flatten[j]?=some p→∃ i k x,j=i*sz+k∧xs[i]?=some x∧x[k]?=some p
 | [],_,j,p,h=>by simp at h
 | x :: l,hl,j,p,h=>by
  rw [List.flatten_cons] at h
  have hx:=hl x (by simp)
  by_cases hj:j<sz
  ·
   rw [cQ (by omega)] at h
   exact ⟨0,j,x,by simp,rfl,h⟩
  ·
   rw [dL (by omega)] at h
   obtain ⟨i,k,y,h1,h2,h3⟩:=aEq (fun y hy=>hl y (by simp [hy])) h
   exact ⟨i+1,k,y,by rw [fO];omega,by simpa using h2,h3⟩
theorem aBn {α:Type}{sz:Nat}:∀ {xs:List (List α)},(∀ x∈xs,x.length=sz)→xs.flatten.length=xs.length*sz
 | [],_=>by simp
 | x :: l,hl=>by
  rw [List.flatten_cons,aF,aBn (fun y hy=>hl y (by simp [hy])),hl x (by simp),fB,fO]
  omega
def aRQ (P:Program) (f:TypeId→Option (List Nat)):Nat→List Field→Option (List Nat)
 | _,[]=>some []
 | off,x :: r=>if (x.name != "_"&&x.offset==off)=true then (match f x.type,kX P x.type with
  | some ks,some (_,sz)=>if ks.length=sz then (match aRQ P f (off+sz) r with | some l=>some (ks++l) | _=>.none) else .none
  | _,_=>.none) else .none
def eqK (P:Program):Nat→TypeId→Option (List Nat)
 | 0,_=>.none
 | d+1,t=>match P.underlying t with
  | some .bool=>some [0]
  | some (.int _)=>some [1]
  | some .string=>some [2]
  | some (.struct fs)=>if P.stoodInHeld t then .none else aRQ P (eqK P d) 0 fs.toList
  | some (.array n e)=>(match eqK P d e,kX P e with
   | some ks,some (_,sz)=>if ks.length=sz then some (List.replicate n ks).flatten else .none
   | _,_=>.none)
  | _=>.none
def zW:List Nat→List AV→List AV→Option Bool
 | [],[],[]=>some true
 | 0 :: ks,.c (.bool a) :: as,.c (.bool b) :: bs=>(zW ks as bs).map fun r=>(a==b)&&r
 | 1 :: ks,.c (.int k a) :: as,.c (.int k' b) :: bs=>if k=k' then (zW ks as bs).map fun r=>decide (a=b)&&r else .none
 | 2 :: ks,.c (.str a) :: as,.c (.str b) :: bs=>(zW ks as bs).map fun r=>decide (a=b)&&r
 | _,_,_=>.none
theorem aFI {k:Nat}{ks:List Nat}{as bs:List AV}{r:Bool} (h:zW (k :: ks) as bs=some r):∃ a as' b bs' r1 r2,as=a :: as'∧bs=b :: bs'∧zW [k] [a] [b]=some r1∧zW ks as' bs'=some r2∧r=(r1&&r2):=by
 generalize hks:k :: ks=kk at h
 unfold zW at h
 split at h
 ·
  cases hks
 ·
  cases hks
  rw [bV] at h
  obtain ⟨r2,h2,rfl⟩:=h
  exact ⟨_,_,_,_,_,r2,rfl,rfl,by simp only [zW,eO,jK],h2,rfl⟩
 ·
  cases hks
  split at h
  ·
   rename_i e
   subst e
   rw [bV] at h
   obtain ⟨r2,h2,rfl⟩:=h
   exact ⟨_,_,_,_,_,r2,rfl,rfl,by simp only [zW,eO,jK,cL],h2,rfl⟩
  ·
   cases h
 ·
  cases hks
  rw [bV] at h
  obtain ⟨r2,h2,rfl⟩:=h
  exact ⟨_,_,_,_,_,r2,rfl,rfl,by simp only [zW,eO,jK],h2,rfl⟩
 ·
  cases h
theorem aGk {as bs:List AV}{r:Bool} (h:zW [] as bs=some r):as=[]∧bs=[]∧r=true:=by
 generalize hks:([]:List Nat)=kk at h
 unfold zW at h
 split at h
 ·
  exact ⟨rfl,rfl,by simpa using h.symm⟩
 ·
  cases hks
 ·
  cases hks
 ·
  cases hks
 ·
  cases h
theorem aGl {k:Nat}{a b:AV}{r:Bool} (h:zW [k] [a] [b]=some r):(∃ x y,k=0∧a=.c (.bool x)∧b=.c (.bool y)∧r=(x==y))∨(∃ q x y,k=1∧a=.c (.int q x)∧b=.c (.int q y)∧r=decide (x=y))∨(∃ x y,k=2∧a=.c (.str x)∧b=.c (.str y)∧r=decide (x=y)):=by
 generalize hks:[k]=kk at h
 generalize ha:[a]=aa at h
 generalize hb:[b]=bb at h
 unfold zW at h
 split at h
 ·
  cases hks
 ·
  cases hks;cases ha;cases hb
  simp only [zW,eO,jK,dB] at h
  exact .inl ⟨_,_,rfl,rfl,rfl,h.symm⟩
 ·
  cases hks;cases ha;cases hb
  split at h
  ·
   rename_i e
   subst e
   simp only [zW,eO,jK,dB] at h
   exact .inr (.inl ⟨_,_,_,rfl,rfl,rfl,h.symm⟩)
  ·
   cases h
 ·
  cases hks;cases ha;cases hb
  simp only [zW,eO,jK,dB] at h
  exact .inr (.inr ⟨_,_,rfl,rfl,rfl,h.symm⟩)
 ·
  cases h
theorem aJj:∀ {ks:List Nat}{as bs:List AV}{r:Bool},zW ks as bs=some r→as.length=ks.length∧bs.length=ks.length
 | [],as,bs,r,h=>by obtain ⟨rfl,rfl,_⟩:=aGk h;exact ⟨rfl,rfl⟩
 | k :: ks,as,bs,r,h=>by
  obtain ⟨a,as',b,bs',r1,r2,rfl,rfl,_,h2,_⟩:=aFI h
  have:=aJj h2
  simp [this.1,this.2]
theorem aFJ:∀ {k1 k2:List Nat}{as bs:List AV}{r:Bool},zW (k1++k2) as bs=some r →
  ∃ r1 r2,zW k1 (as.take k1.length) (bs.take k1.length)=some r1∧zW k2 (as.drop k1.length) (bs.drop k1.length)=some r2∧r=(r1&&r2)
 | [],k2,as,bs,r,h=>⟨true,r,by simp [zW],by simpa using h,by simp⟩
 | k :: k1,k2,as,bs,r,h=>by
  obtain ⟨a,as',b,bs',r1,r2,rfl,rfl,h1,h2,rfl⟩:=aFI (show zW (k :: (k1++k2)) as bs=some r from h)
  obtain ⟨s1,s2,g1,g2,rfl⟩:=aFJ h2
  refine ⟨r1&&s1,s2,?_,by simpa using g2,by rw [tF]⟩
  simp only [fB,mR]
  rcases aGl h1 with ⟨x,y,rfl,rfl,rfl,rfl⟩ | ⟨q,x,y,rfl,rfl,rfl,rfl⟩ | ⟨x,y,rfl,rfl,rfl,rfl⟩
  ·
   simp only [zW,g1,eO]
  ·
   simp only [zW,g1,eO,cL]
  ·
   simp only [zW,g1,eO]
section
variable {P:Program}{w:World}{g:G}
def mkV (ag:Bool) (vs:Array Value):Value:=if ag then .agg vs else vs.getD 0 undef
theorem aJc {t:TypeId}{ag:Bool}{n off:Nat}{xs:Array Value} (ht:kX P t=some (ag,n)) (hn:ag=false→n=1) (hx:off+n≤xs.size):(part t xs off).run P w=.ok (mkV ag (xs.extract off (off+n))) w:=by
 cases ag with
 | true=>simp [part,(nF ht w).1,(nF ht w).2,mkV]
 | false =>
  have h1:=hn rfl
  subst h1
  have hlt:off<xs.size:=by omega
  have h0:0<min (off+1) xs.size - off:=by omega
  simp [part,(nF ht w).1,mkV,hlt,eQ hlt,lL,h0]
theorem aNf {d:Nat}{t:TypeId}{ks:List Nat}{n:Nat} (h:eqK P d t=some ks) (ht:kX P t=some (false,n)) (hl:ks.length=n):n=1:=by
 cases d with
 | zero=>cases h
 | succ d =>
  unfold eqK at h
  unfold kX at ht
  split at h
  ·
   cases h;exact hl.symm
  ·
   cases h;exact hl.symm
  ·
   cases h;exact hl.symm
  ·
   rename_i fs hu
   rw [hu] at ht
   cases hin:P.info? t <;> simp [hin] at ht
  ·
   rename_i q e hu
   rw [hu] at ht
   cases hin:P.info? t <;> simp [hin] at ht
  ·
   cases h
theorem aES {t:TypeId}{n:Nat}{ag:Bool}{k:TypeDesc} (hu:P.underlying t=some k) (ht:kX P t=some (ag,n)):ag=(match k with | .struct _=>true | .array _ _=>true | _=>false):=by
 unfold kX at ht
 rw [hu] at ht
 cases hin:P.info? t with
 | none=>cases k <;> simp [hin] at ht
 | some i=>cases k <;> simp [hin] at ht <;> simp [ht.1]
def aUq (P:Program) (w:World) (g:G) (dd:Nat) (t:TypeId) (ks:List Nat):Prop :=
 ∀ (ag:Bool) (vs ws:Array Value) (as bs:List AV) (r:Bool),kX P t=some (ag,ks.length)→gB g w vs as→gB g w ws bs→zW ks as bs=some r→(Op.equalIn dd t (mkV ag vs) (mkV ag ws)).run P w=.ok r w
theorem aIe {f:TypeId→Option (List Nat)}{dd:Nat} (hf:∀ t ks,f t=some ks→aUq P w g dd t ks) (hone:∀ t ks n,f t=some ks→kX P t=some (false,n)→ks.length=n→n=1) {xs ys:Array Value}{as bs:List AV} (hx:gB g w xs as) (hy:gB g w ys bs) :
  ∀ (fs:List Field) (off:Nat) (ks:List Nat) (r:Bool),aRQ P f off fs=some ks→off+ks.length≤as.length→off+ks.length≤bs.length→zW ks ((as.drop off).take ks.length) ((bs.drop off).take ks.length)=some r→(Op.eqFields dd xs ys fs).run P w=.ok r w
 | [],off,ks,r,h,_,_,hr=>by
  simp only [aRQ,dB] at h
  subst h
  obtain ⟨_,_,rfl⟩:=aGk hr
  simp [Op.eqFields]
 | x :: fs,off,ks,r,h,ha,hb,hr=>by
  simp only [aRQ] at h
  split at h
  ·
   rename_i hn
   simp only [aR,bne_iff_ne,ne_eq,nK] at hn
   obtain ⟨hn,ho⟩:=hn
   split at h
   ·
    rename_i kx ag sz hk hv
    split at h
    ·
     rename_i hl
     split at h
     ·
      rename_i l hl2
      simp only [dB] at h
      subst h
      rw [aF] at ha hb
      obtain ⟨r1,r2,g1,g2,rfl⟩:=aFJ hr
      have e1:∀ (cs:List AV),off+(kx.length+l.length)≤cs.length→((cs.drop off).take (kx++l).length).take kx.length=(cs.drop off).take sz:=fun cs h=>by
       rw [tG,aF,Nat.min_eq_left (by omega),hl]
      have e2:∀ (cs:List AV),((cs.drop off).take (kx++l).length).drop kx.length=(cs.drop (off+sz)).take l.length:=fun cs=>by
       rw [oF,oE,aF,hl]
       congr 1
       omega
      rw [e1 as ha,e1 bs hb] at g1
      rw [e2 as,e2 bs] at g2
      have hxs:xs.size=as.length:=hx.1
      have hys:ys.size=bs.length:=hy.1
      have p1:=aJc (w:=w) (off:=off) (xs:=xs) hv (fun e=>hone _ _ _ hk (e ▸ hv) hl) (by omega)
      have p2:=aJc (w:=w) (off:=off) (xs:=ys) hv (fun e=>hone _ _ _ hk (e ▸ hv) hl) (by omega)
      have p3:=hf _ _ hk ag _ _ _ _ r1 (by rw [hl];exact hv) (gB.sub hx off sz) (gB.sub hy off sz) (by rw [← hl];rw [hl];exact g1)
      have ih:=aIe hf hone hx hy fs (off+sz) l r2 hl2 (by omega) (by omega) g2
      simp only [Op.eqFields,hn,ne_eq,not_false_eq_true,cL,ho,Sem.run_bind,p1,p2,p3,Result.andThen_ok]
      cases r1
      ·
       simp
      ·
       simpa using ih
     ·
      cases h
    ·
     cases h
   ·
    cases h
  ·
   cases h
theorem aJt {e:TypeId}{dd sz:Nat}{ag:Bool}{ks:List Nat} (hf:aUq P w g dd e ks) (hv:kX P e=some (ag,sz)) (hone:ag=false→sz=1) (hl:ks.length=sz) {xs ys:Array Value}{as bs:List AV} (hx:gB g w xs as) (hy:gB g w ys bs) :
  ∀ (n k:Nat) (r:Bool),(k+n)*sz≤as.length→(k+n)*sz≤bs.length→zW (List.replicate n ks).flatten ((as.drop (k*sz)).take (n*sz)) ((bs.drop (k*sz)).take (n*sz))=some r→(Op.eqItems dd e sz xs ys (List.range' k n)).run P w=.ok r w
 | 0,k,r,_,_,hr=>by
  rw [List.replicate_zero,List.flatten_nil] at hr
  obtain ⟨_,_,rfl⟩:=aGk hr
  simp [Op.eqItems]
 | n+1,k,r,ha,hb,hr=>by
  rw [List.replicate_succ,List.flatten_cons] at hr
  obtain ⟨r1,r2,g1,g2,rfl⟩:=aFJ hr
  have hm:(n+1)*sz=n*sz+sz:=by rw [fO,pZ]
  have hk:(k+(n+1))*sz=k*sz+(n*sz+sz):=by rw [fO,hm]
  have hk1:(k+1)*sz=k*sz+sz:=by rw [fO,pZ]
  have e1:∀ (cs:List AV),((cs.drop (k*sz)).take ((n+1)*sz)).take ks.length=(cs.drop (k*sz)).take sz:=fun cs=>by
   rw [tG,Nat.min_eq_left (by omega),hl]
  have e2:∀ (cs:List AV),((cs.drop (k*sz)).take ((n+1)*sz)).drop ks.length=(cs.drop ((k+1)*sz)).take (n*sz):=fun cs=>by
   rw [oF,oE,hl,hk1,hm]
   congr 1
   omega
  rw [e1,e1] at g1
  rw [e2,e2] at g2
  have hxs:xs.size=as.length:=hx.1
  have hys:ys.size=bs.length:=hy.1
  have p1:=aJc (w:=w) (off:=k*sz) (xs:=xs) hv hone (by omega)
  have p2:=aJc (w:=w) (off:=k*sz) (xs:=ys) hv hone (by omega)
  have p3:=hf ag _ _ _ _ r1 (by rw [hl];exact hv) (gB.sub hx (k*sz) sz) (gB.sub hy (k*sz) sz) g1
  have ih:=aJt hf hv hone hl hx hy n (k+1) r2 (by rw [show k+1+n=k+(n+1) by omega];exact ha) (by rw [show k+1+n=k+(n+1) by omega];exact hb) g2
  rw [List.range'_succ]
  simp only [Op.eqItems,Sem.run_bind,p1,p2,p3,Result.andThen_ok]
  cases r1
  ·
   simp
  ·
   simpa using ih
theorem aJU {vs:Array Value}{a:AV} (h:gB g w vs [a]):∃ v,vs=#[v]∧nA g w v a:=by
 obtain ⟨h1,h2⟩:=h
 have hs:vs.size=1:=h1
 refine ⟨vs[0],?_,h2 0 vs[0] a (by simp [hs]) rfl⟩
 apply Array.ext
 ·
  simp [hs]
 ·
  intro i h3 h4
  have:i=0:=by omega
  subst this
  rfl
theorem aOS (m:Nat):∀ (d:Nat) (t:TypeId) (ks:List Nat),eqK P d t=some ks→aUq P w g (m+d) t ks
 | 0,t,ks,h=>by cases h
 | d+1,t,ks,h=>by
  intro ag vs ws as bs r ht hv hw hr
  unfold eqK at h
  have base:∀ {k:Nat},ks=[k]→∃ v u a b,vs=#[v]∧ws=#[u]∧nA g w v a∧nA g w u b∧zW [k] [a] [b]=some r:=by
   rintro k rfl
   obtain ⟨a,as',b,bs',r1,r2,rfl,rfl,h1,h2,rfl⟩:=aFI hr
   obtain ⟨rfl,rfl,rfl⟩:=aGk h2
   obtain ⟨v,rfl,hv'⟩:=aJU hv
   obtain ⟨u,rfl,hw'⟩:=aJU hw
   exact ⟨v,u,a,b,rfl,rfl,hv',hw',by rw [h1,jK]⟩
  split at h
  ·
   rename_i hu
   cases h
   have hag:ag=false:=aES hu ht
   subst hag
   obtain ⟨v,u,a,b,rfl,rfl,h1,h2,h3⟩:=base rfl
   rcases aGl h3 with ⟨x,y,_,rfl,rfl,rfl⟩ | ⟨q,x,y,e,_⟩ | ⟨x,y,e,_⟩
   ·
    have e1:=h1.c_inv
    have e2:=h2.c_inv
    cases e1
    cases e2
    exact run_equalIn_bool' (P:=P) w (m+d) t x y hu
   ·
    cases e
   ·
    cases e
  ·
   rename_i q0 hu
   cases h
   have hag:ag=false:=aES hu ht
   subst hag
   obtain ⟨v,u,a,b,rfl,rfl,h1,h2,h3⟩:=base rfl
   rcases aGl h3 with ⟨x,y,e,_⟩ | ⟨q,x,y,_,rfl,rfl,rfl⟩ | ⟨x,y,e,_⟩
   ·
    cases e
   ·
    have e1:=h1.c_inv
    have e2:=h2.c_inv
    cases e1
    cases e2
    have:=run_equalIn_int (P:=P) w (m+d) t q q0 x y hu
    have e3:(x==y)=decide (x=y):=by rw [eF];simp
    rw [e3] at this
    exact this
   ·
    cases e
  ·
   rename_i hu
   cases h
   have hag:ag=false:=aES hu ht
   subst hag
   obtain ⟨v,u,a,b,rfl,rfl,h1,h2,h3⟩:=base rfl
   rcases aGl h3 with ⟨x,y,e,_⟩ | ⟨q,x,y,e,_⟩ | ⟨x,y,_,rfl,rfl,rfl⟩
   ·
    cases e
   ·
    cases e
   ·
    have e1:=h1.c_inv
    have e2:=h2.c_inv
    cases e1
    cases e2
    have:=run_equalIn_string (P:=P) w (m+d) t ⟨x.toArray⟩ ⟨y.toArray⟩ hu
    have e3:(x==y)=decide (x=y):=by rw [eF];simp
    rw [aFW,aFW,e3] at this
    exact this
  ·
   rename_i fs hu
   have hag:ag=true:=aES hu ht
   subst hag
   split at h
   ·
    cases h
   ·
    rename_i hs
    have hs:P.stoodInHeld t=false:=by simpa using hs
    have hfs:P.fieldsOf t=fs:=by simp [Program.fieldsOf,hu]
    obtain ⟨l1,l2⟩:=aJj hr
    have:=aIe (P:=P) (w:=w) (g:=g) (f:=eqK P d) (dd:=m+d) (fun t ks h=>aOS m d t ks h) (fun t ks n h1 h2 h3=>aNf h1 h2 h3) hv hw fs.toList 0 ks r h (by omega) (by omega) (by
     rw [oG,oG,hZ (by omega),hZ (by omega)];exact hr)
    simp only [mkV,cL]
    rw [show m+(d+1)=(m+d)+1 from rfl,run_equalIn_struct w (m+d) t vs ws (by rw [hfs];exact hu) hs,hfs]
    exact this
  ·
   rename_i n e hu
   have hag:ag=true:=aES hu ht
   subst hag
   split at h
   ·
    rename_i kx ag sz hk hve
    split at h
    ·
     rename_i hl
     cases h
     obtain ⟨l1,l2⟩:=aJj hr
     have hln:(List.replicate n kx).flatten.length=n*sz:=by rw [aBn (sz:=sz) (fun x hx=>by rw [(List.mem_replicate.1 hx).2];exact hl),List.length_replicate]
     have:=aJt (P:=P) (w:=w) (g:=g) (aOS m d e kx hk) hve (fun e'=>aNf hk (e' ▸ hve) hl) hl hv hw n 0 r (by rw [jF];omega) (by rw [jF];omega) (by
      rw [Nat.zero_mul,oG,oG,hZ (by omega),hZ (by omega)];exact hr)
     obtain ⟨i,hi,hsz⟩:∃ i,P.info? e=some i∧i.size=sz:=by
      unfold kX at hve
      cases hin:P.info? e with
      | none=>cases hue:P.underlying e with
       | none=>simp [hue,hin] at hve
       | some k=>cases k <;> simp [hue,hin] at hve
      | some i=>cases hue:P.underlying e with
       | none=>simp [hue,hin] at hve
       | some k=>cases k <;> simp [hue,hin] at hve <;> exact ⟨i,rfl,hve.2⟩
     have hc:P.cellsOf e=sz:=by simp [Program.cellsOf,hi,hsz]
     simp only [mkV,cL]
     rw [show m+(d+1)=(m+d)+1 from rfl,run_equalIn_array w (m+d) vs ws hu hi,hc,List.range_eq_range']
     exact this
    ·
     cases h
   ·
    cases h
  ·
   cases h
end
def axv (P:Program) (o:Oper) (ev:Operand→AV) (v:AV):Prop :=
 match o.op with
 | .index t x ix=>∃ e sz n ag cs k i,aKg P t=some (e,sz,n,ag)∧ev x=.agg cs∧ev ix=.c (.int k i)∧0≤i∧i<(n:Int) ∧
  ((ag=true∧i.toNat*sz+sz≤cs.length∧v=.agg ((cs.drop (i.toNat*sz)).take sz))∨(ag=false∧cs[i.toNat*sz]?=some v))
 | .build t parts=>∃ e sz n ag hs rows z,aKg P t=some (e,sz,n,ag)∧mM P t=some z∧z.length=parts.toList.length*sz∧aB4 hs sz ev 0 parts.toList=some rows∧v=.agg (rows.flatten.map AV.c)
 | .binOp op t x y _=>∃ as bs ks r,ev x=.agg as∧ev y=.agg bs∧eqK P 40 t=some ks∧kX P t=some (true,ks.length)∧P.eqGuardType P.depth t=false∧zW ks as bs=some r∧((op=.eql∧v=.c (.bool r))∨(op=.neq∧v=.c (.bool (!r))))
 | .sliceToArrayPointer arr x=>∃ e sz n ag xs,aKg P arr=some (e,sz,n,ag)∧(ev x=.c (.list sz xs)∨∃ t,ev x=.own t sz xs)∧n≤xs.length∧0<xs.length∧v=.eptr xs.flatten 0
 | .indexAddr t x ix=>∃ e sz n ag id off k i,aKg P t=some (e,sz,n,ag)∧ev x=.box id off∧ev ix=.c (.int k i)∧0≤i∧i<(n:Int)∧v=.box id (off+i.toNat*sz)
 | _=>False
theorem aDP {P:Program}{t:TypeId}{ag:Bool}{n:Nat} (h:kX P t=some (ag,n)) (w:World):(sizeOf t).run P w=.ok n w:=(nF h w).2
section
variable {P:Program}{c:Ctx}{g:G}{w:World}{σ:St}{K:Option (Nat→Bool)→AV→St→Prop}{a:Act}{fr:Fr}{dst:Option Tmp}{ty:TypeId}{pos:String}{after:Array Edge}{guard:Option (Nat × Bool)}
theorem aT4 {t:TypeId}{x ix:Operand}{v:AV} (hi:tT c g w σ) (hf:yV g w a.tmps fr) (h:axv P ⟨dst,.index t x ix,ty,pos,after,guard⟩ fr.ev v) (hk:K .none v σ):rU P c ⟨dst,.index t x ix,ty,pos,after,guard⟩ a.eval w g K:=by
 obtain ⟨e,sz,n,ag,cs,k,i,ht,hx0,hi0,h0,h1,h⟩:=h
 obtain ⟨hu,hv⟩:=aCv ht
 have hx:=fK hf x
 have hix:=fK hf ix
 rw [hx0] at hx
 rw [hi0] at hix
 generalize hvix:a.eval ix=vix at hix
 generalize hvx:a.eval x=vx at hx
 cases hix with
 | c hix =>
  cases hix
  cases hx with
  | agg vs _ hl ha =>
   have hrun:(Instr.index t (.agg vs) (.int k i)).run P w=(part e vs (i.toNat*sz)).run P w:=by simp [Instr.index,asIntOf,run_underlying hu,h0,h1,aDP hv]
   rcases h with ⟨rfl,hfit,rfl⟩ | ⟨rfl,hav⟩
   ·
    have hsub:=gB.sub (g:=g) (w:=w) ⟨hl,ha⟩ (i.toNat*sz) sz
    exact .same hi (v:=.agg (vs.extract (i.toNat*sz) (i.toNat*sz+sz))) (by simp [execOp,hvx,hvix,hrun,part,(nF hv w).1,(nF hv w).2]) (.agg _ _ hsub.1 hsub.2) hk
   ·
    have hlt:i.toNat*sz<vs.size:=by rw [hl];exact (bR.1 hav).1
    exact .same hi (v:=vs[i.toNat*sz]) (by simp [execOp,hvx,hvix,hrun,part,(nF hv w).1,hlt]) (ha _ _ _ (eQ hlt) hav) hk
theorem aT3 {t:TypeId}{parts:Array (Nat × Operand)}{v:AV} (hi:tT c g w σ) (hf:yV g w a.tmps fr) (h:axv P ⟨dst,.build t parts,ty,pos,after,guard⟩ fr.ev v) (hk:K .none v σ):rU P c ⟨dst,.build t parts,ty,pos,after,guard⟩ a.eval w g K:=by
 obtain ⟨e,sz,n,ag,hs,rows,z,ht,hz,hzl,hrows,rfl⟩:=h
 obtain ⟨hu,hv⟩:=aCv ht
 unfold mM at hz
 cases hin:P.info? t with
 | none=>simp [hin] at hz
 | some i =>
  simp only [hin] at hz
  cases hzz:i.zero with
  | none=>simp [hzz] at hz
  | some zv =>
   simp only [hzz,dB] at hz
   subst hz
   obtain ⟨cells,hfill,h1,h2,h3,h4⟩:=aEl hf parts.toList 0 rows hrows
   have hz0:(zeroValue t).run P w=.ok zv w:=by simp [zeroValue,typeInfo,hin,hzz]
   have hfill':=hfill zv.cells (by rw [jF,← hzl];simp)
   rw [Nat.zero_mul,List.take_zero,iC] at hfill'
   have hlen:cells.length=rows.flatten.length:=by rw [h1,aBn h3]
   refine .same hi (v:=.agg cells.toArray) ?_ (.agg _ _ (by rw [List.size_toArray,gG,hlen]) fun j u b hu' hb=>?_) hk
   ·
    have hf2:Instr.fill (fun i=>some (i*sz,sz)) zv.cells (parts.map fun (i,x)=>(i,a.eval x)).toList=some cells.toArray:=by rw [Array.toList_map];exact hfill'
    simp only [execOp,Instr.build,Sem.run_bind,hz0,Result.andThen_ok,run_underlying hu,aDP hv,hf2,Sem.run_pure]
   ·
    rw [bY,bV] at hb
    obtain ⟨p,hp,rfl⟩:=hb
    obtain ⟨i',k,x,rfl,hx1,hx2⟩:=aEq h3 hp
    obtain ⟨u',hu2,hr⟩:=h4 i' k x p hx1 hx2
    rw [pP,hu2] at hu'
    cases hu'
    exact .c hr
theorem aWD {op:BinOp}{t t2:TypeId}{x y:Operand}{v:AV} (hi:tT c g w σ) (hf:yV g w a.tmps fr) (h:axv P ⟨dst,.binOp op t x y t2,ty,pos,after,guard⟩ fr.ev v) (hk:K .none v σ):rU P c ⟨dst,.binOp op t x y t2,ty,pos,after,guard⟩ a.eval w g K:=by
 obtain ⟨as,bs,ks,r,hx0,hy0,hks,htv,hgt,hr,h⟩:=h
 have hx:=fK hf x
 have hy:=fK hf y
 rw [hx0] at hx
 rw [hy0] at hy
 generalize hvx:a.eval x=vx at hx
 generalize hvy:a.eval y=vy at hy
 cases hx with
 | agg vs _ hl ha =>
  cases hy with
  | agg ws _ hl2 ha2 =>
   have he:=aOS (P:=P) (w:=w) (g:=g) 9960 40 t ks hks true vs ws as bs r htv ⟨hl,ha⟩ ⟨hl2,ha2⟩ hr
   simp only [mkV,cL] at he
   have hg:=run_eqGuard_agg (P:=P) w op t x y vs ws hgt
   rcases h with ⟨rfl,rfl⟩ | ⟨rfl,rfl⟩
   ·
    refine .same hi (v:=.bool r) ?_ (.c (.bool r)) hk
    simp only [execOp,hvx,hvy,Sem.run_bind,hg,Result.andThen_ok,run_eql_struct,he,Sem.run_pure]
   ·
    refine .same hi (v:=.bool (!r)) ?_ (.c (.bool (!r))) hk
    simp only [execOp,hvx,hvy,Sem.run_bind,hg,Result.andThen_ok,run_neq_struct,he,Sem.run_pure]
theorem aT5 {t:TypeId}{x:Operand}{v:AV} (hi:tT c g w σ) (hf:yV g w a.tmps fr) (h:axv P ⟨dst,.sliceToArrayPointer t x,ty,pos,after,guard⟩ fr.ev v) (hk:K .none v σ):rU P c ⟨dst,.sliceToArrayPointer t x,ty,pos,after,guard⟩ a.eval w g K:=by
 obtain ⟨e,sz,n,ag,xs,ht,hx0,hn,hpos,rfl⟩:=h
 obtain ⟨hu,hv⟩:=aCv ht
 have hx:=fK hf x
 have hrv:RV g.I w (a.eval x) (.list sz xs):=by
  rcases hx0 with h0 | ⟨t0,h0⟩ <;> rw [h0] at hx
  ·
   exact hx.c_inv
  ·
   exact hx.own_inv.rv
 generalize hvx:a.eval x=vx at hrv
 cases hrv with
 | empty A cap sz=>simp at hpos
 | row b o cap sz xs vs hs hcap hc hv' =>
  refine .same hi (v:=.pointer (some ⟨b,o,none⟩)) ?_ ?_ hk
  ·
   have hn':¬(xs.length<n):=by omega
   simp [execOp,hvx,Instr.arrayAt,run_underlying hu,hn']
  ·
   have:=nA.eptr (g:=g) (w:=w) b o 0 xs.flatten vs (fun j hj=>hc j (by rw [aBn hs] at hj;exact hj)) (fun j p hp=>by
    obtain ⟨i,k,y,rfl,h1,h2⟩:=aEq hs hp
    exact hv' i k y p h1 h2)
   exact this
theorem aOe {t:TypeId}{x ix:Operand}{v:AV} (hi:tT c g w σ) (hf:yV g w a.tmps fr) (h:axv P ⟨dst,.indexAddr t x ix,ty,pos,after,guard⟩ fr.ev v) (hk:K .none v σ):rU P c ⟨dst,.indexAddr t x ix,ty,pos,after,guard⟩ a.eval w g K:=by
 obtain ⟨e,sz,n,ag,id,off,k,i,ht,hx0,hi0,h0,h1,rfl⟩:=h
 obtain ⟨hu,hv⟩:=aCv ht
 have hx:=fK hf x
 have hix:=fK hf ix
 rw [hx0] at hx
 rw [hi0] at hix
 generalize hvix:a.eval ix=vix at hix
 generalize hvx:a.eval x=vx at hx
 cases hix with
 | c hix =>
  cases hix
  cases hx with
  | box _ _ b hb =>
   refine .same hi (v:=.pointer (some ⟨b,off+i.toNat*sz,none⟩)) ?_ (.box _ _ b hb) hk
   simp [execOp,hvx,hvix,Instr.indexAt,Instr.sureAddr,asIntOf,run_underlying hu,h0,h1,aDP hv,tE]
end
theorem aQw {P:Program}{c:Ctx}{g:G}{w:World}{σ:St}{K:Option (Nat→Bool)→AV→St→Prop}{a:Act}{fr:Fr}{o:Oper}{v:AV} (hi:tT c g w σ) (hf:yV g w a.tmps fr) (h:axv P o fr.ev v) (hk:K .none v σ):rU P c o a.eval w g K:=by
 obtain ⟨dst,op,ty,pos,after,guard⟩:=o
 cases op
 case index t x ix=>exact aT4 hi hf h hk
 case build t parts=>exact aT3 hi hf h hk
 case binOp op t x y t2=>exact aWD hi hf h hk
 case sliceToArrayPointer t x=>exact aT5 hi hf h hk
 case indexAddr t x ix=>exact aOe hi hf h hk
 all_goals exact (by simp only [axv] at h)
def avv (P:Program) (o:Oper) (ev:Operand→AV) (v:AV):Prop :=
 match o.op with
 | .slice t x .none .none .none=>∃ e sz n ag id off,aKg P t=some (e,sz,n,ag)∧ev x=.box id off∧v=.view id off n
 | .call { callee:=.builtin .len,args,argTypes }=>∃ x t n,args.toList=[x]∧argTypes.toList=[t]∧jZ P t=3∧v=.c (.int .i64 (n:Nat))∧((∃ id off,ev x=.view id off n)∨∃ t0 sz xs,ev x=.mrow t0 sz xs∧xs.length=n)
 | .indexAddr t x ix=>∃ e sz by_ k i,lV P t=some (e,sz,by_)∧ev ix=.c (.int k i)∧0≤i ∧
  ((∃ id off n,ev x=.view id off n∧i<((n:Nat):Int)∧v=.box id (off+i.toNat*sz))∨∃ t0 xs row,ev x=.mrow t0 sz xs∧xs[i.toNat]?=some row∧v=.mptr t0 sz i.toNat 0 row)
 | .fieldAddr t x f=>∃ k ag n t0 sz i off row,eH P t f=some (k,ag,n)∧ev x=.mptr t0 sz i off row∧v=.mptr t0 sz i (off+k) row
 | .unOp .xor _ x=>∃ k n,ev x=.c (.int k n)∧v=.c (.int k (lR .xor k (if k.signed then -1 else k.max) n))
 | .nilCheck x=>∃ t0 sz i off row,ev x=.mptr t0 sz i off row∧v=.mptr t0 sz i off row
 | .load t x=>∃ ag n t0 sz i off row,kX P t=some (ag,n)∧ev x=.mptr t0 sz i off row ∧
  ((ag=true∧off+n≤row.length∧v=.agg (((row.drop off).take n).map AV.c))∨(ag=false∧∃ p,row[off]?=some p∧v=.c p))
 | _=>False
def axg (P:Program) (o:Oper) (ev:Operand→AV) (σ:St) (dm:Option (Nat→Bool)) (v:AV) (σ':St):Prop :=
 match o.op with
 | .makeSlice t l c=>∃ e sz by_ z k k' n ps,lV P t=some (e,sz,by_)∧mM P e=some z∧ev l=.c (.int k (n:Int))∧ev c=.c (.int k' n)∧0≤n∧(by_:Int)*n≤281474976710656∧n≤9223372036854775807 ∧
  o.dst.isSome=true∧AV.pvs? (z.map AV.ofFlat)=some ps∧dm=some (qP o.dst)∧v=.mrow (sQ o.dst) sz (List.replicate n.toNat ps)∧σ'=σ.dem (qP o.dst)
 | .call { callee:=.builtin .append,args,argTypes }=>∃ s x t tx e sz by_ f xs ys,args.toList=[s,x]∧argTypes.toList=[t,tx]∧lV P t=some (e,sz,by_)∧0<by_∧jZ P tx=3∧o.dst.isSome=true∧(∀ y∈ys,y.length=sz)∧(xs.length+ys.length)*by_≤140737488355328 ∧
  f (sQ o.dst)=true∧dm=some f∧σ'=σ.dem f ∧
  (ev x=.c (.list sz ys)∨(∃ t0,ev x=.own t0 sz ys)∨(∃ t0,ev x=.mrow t0 sz ys)∨(ev x=.nil∧ys=[])∨∃ id off m cs,ev x=.view id off m∧σ[id]?=some cs∧ys.length=m∧(cs.drop off).take (m*sz)=ys.flatten.map AV.c) ∧
  ((((ev s=.nil∧xs=[])∨∃ t0,f t0=true∧ev s=.own t0 sz xs)∧v=.own (sQ o.dst) sz (xs++ys)) ∨
   (((ev s=.nil∧xs=[])∨(∃ t0,f t0=true∧ev s=.own t0 sz []∧xs=[])∨∃ t0,f t0=true∧ev s=.mrow t0 sz xs)∧v=.mrow (sQ o.dst) sz (xs++ys)))
 | _=>False
section
variable {P:Program}{c:Ctx}{g:G}{w:World}{σ:St}{K:Option (Nat→Bool)→AV→St→Prop}{a:Act}{fr:Fr}{dst:Option Tmp}{ty:TypeId}{pos:String}{after:Array Edge}{guard:Option (Nat × Bool)}
theorem nA.mut_inv {g:G}{w:World}{v:Value}{t sz:Nat}{xs:List (List PV)} (h:nA g w v (.mrow t sz xs)):aQh g w v t sz xs:=by cases h;assumption
theorem nA.mptr_inv {g:G}{w:World}{v:Value}{t sz i off:Nat}{row:List PV} (h:nA g w v (.mptr t sz i off row)):aMJ g w v t sz i off row:=by cases h;assumption
theorem aT2 {t:TypeId}{x:Operand}{v:AV} (hi:tT c g w σ) (hf:yV g w a.tmps fr) (h:avv P ⟨dst,.slice t x .none .none .none,ty,pos,after,guard⟩ fr.ev v) (hk:K .none v σ):rU P c ⟨dst,.slice t x .none .none .none,ty,pos,after,guard⟩ a.eval w g K:=by
 obtain ⟨e,sz,n,ag,id,off,ht,hx0,rfl⟩:=h
 obtain ⟨hu,hv⟩:=aCv ht
 have hx:=fK hf x
 rw [hx0] at hx
 generalize hvx:a.eval x=vx at hx
 cases hx with
 | box _ _ b hb =>
  refine .same hi (v:=.slice (some ⟨b,off,none⟩) n n) ?_ (.view id off n b n hb (eP _)) hk
  simp [execOp,hvx,Instr.sliceAt,Instr.sureAddr,Instr.sliceBounds,run_underlying hu,aDP hv,tE]
theorem aVU {args:Array Operand}{argTypes:Array TypeId}{v:AV} (hi:tT c g w σ) (hf:yV g w a.tmps fr) (h:avv P ⟨dst,.call { callee:=.builtin .len,args,argTypes },ty,pos,after,guard⟩ fr.ev v) (hk:K .none v σ) :
  rU P c ⟨dst,.call { callee:=.builtin .len,args,argTypes },ty,pos,after,guard⟩ a.eval w g K:=by
 obtain ⟨x,t,n,hargs,hty,h3,rfl,h⟩:=h
 obtain rfl:=aPM hargs
 obtain rfl:=aPM hty
 have hx:=fK hf x
 have key:∃ A cap,a.eval x=.slice A n cap:=by
  rcases h with ⟨id,off,hx0⟩ | ⟨t0,sz,xs,hx0,rfl⟩
  ·
   rw [hx0] at hx
   generalize a.eval x=vx at hx
   cases hx with
   | view _ _ _ b cap hb hn=>exact ⟨_,_,rfl⟩
  ·
   rw [hx0] at hx
   obtain ⟨_,_,e,cells,ho,_⟩:=hx.mut_inv
   rcases ho.2 with ⟨hv,hn⟩ | ⟨b,cap,cur,hv,_⟩
   ·
    rw [hn];exact ⟨_,_,hv⟩
   ·
    exact ⟨_,_,hv⟩
 obtain ⟨A,cap,hv⟩:=key
 refine .same hi (v:=.int .i64 n) ?_ (.c (.int _ _)) hk
 obtain ⟨cs,hcs⟩:=yI (dst:=dst) (ty:=ty) (pos:=pos) (after:=after) (guard:=guard) .len #[x] #[t] a.eval
 rw [hcs]
 simp only [builtin,Sem.run_bind,List.map_toArray,iN,sZ,hv,aAX A n cap h3,Result.andThen_ok,Sem.run_pure]
theorem aN6 {t:TypeId}{x ix:Operand}{v:AV} (hi:tT c g w σ) (hf:yV g w a.tmps fr) (h:avv P ⟨dst,.indexAddr t x ix,ty,pos,after,guard⟩ fr.ev v) (hk:K .none v σ):rU P c ⟨dst,.indexAddr t x ix,ty,pos,after,guard⟩ a.eval w g K:=by
 obtain ⟨e,sz,by_,k,i,ht,hi0,h0,h⟩:=h
 obtain ⟨hu,inf,z,hin,_,_,_,hsz,_⟩:=vR ht
 have hx:=fK hf x
 have hix:=fK hf ix
 rw [hi0] at hix
 generalize hvix:a.eval ix=vix at hix
 generalize hvx:a.eval x=vx at hx
 cases hix.c_inv
 rcases h with ⟨id,off,n,hx0,h1,rfl⟩ | ⟨t0,xs,row,hx0,hrow,rfl⟩
 ·
  rw [hx0] at hx
  cases hx with
  | view _ _ _ b cap hb hn =>
   refine .same hi (v:=.pointer (some ⟨b,off+i.toNat*sz,none⟩)) ?_ (.box _ _ b hb) hk
   simp [execOp,hvx,hvix,Instr.indexAt,asIntOf,run_underlying hu,h0,h1,sizeOf,typeInfo,hin,hsz,tE]
 ·
  rw [hx0] at hx
  obtain ⟨hp,hs,e',cells,ho,hv,hb⟩:=hx.mut_inv
  have hlt:=(bR.1 hrow).1
  have h1:i<(xs.length:Int):=by omega
  rcases ho.2 with ⟨rfl,hn⟩ | ⟨b,cap,cur,rfl,_,hg,hnc,_,hcs,htake⟩
  ·
   omega
  ·
   obtain ⟨hτ,hI⟩:=hb b rfl
   have hfit:i.toNat*sz+sz≤xs.length*sz:=by
    have:(i.toNat+1)*sz≤xs.length*sz:=gZ _ hlt
    rwa [fO,pZ] at this
   have hfit2:xs.length*sz≤cur.size:=by rw [hcs];exact gZ _ hnc
   refine .same hi (v:=.pointer (some ⟨b,0+i.toNat*sz,none⟩)) ?_ (.mptr _ _ _ _ _ ⟨b,cur,e',by simp,hτ,hI,hs row (dA hrow),by omega,hg,fun j p hp=>?_⟩) hk
   ·
    simp [execOp,hvx,hvix,Instr.indexAt,asIntOf,run_underlying hu,h0,h1,sizeOf,typeInfo,hin,hsz,tE]
   ·
    obtain ⟨u,hu,hr⟩:=hv i.toNat j row p hrow hp
    refine ⟨u,?_,hr⟩
    rw [← htake,lZ] at hu
    split at hu
    ·
     simpa using hu
    ·
     cases hu
theorem aN5 {t:TypeId}{x:Operand}{f:Nat}{v:AV} (hi:tT c g w σ) (hf:yV g w a.tmps fr) (h:avv P ⟨dst,.fieldAddr t x f,ty,pos,after,guard⟩ fr.ev v) (hk:K .none v σ):rU P c ⟨dst,.fieldAddr t x f,ty,pos,after,guard⟩ a.eval w g K:=by
 obtain ⟨k,ag,n,t0,sz,i,off,row,ht,hx0,rfl⟩:=h
 obtain ⟨fs,y,hu,hy,rfl,hv0,hn⟩:=aDR ht
 have hrun:∀ b o,(Instr.fieldAt t (.pointer (some ⟨b,o,none⟩)) f).run P w=.ok (.pointer (some ⟨b,o+y.offset,none⟩)) w:=by
  intro b o
  simp [Instr.fieldAt,run_underlying hu,hy,Instr.sureAddr,fieldPlace,(nF hv0 w).2,hn,tE]
 have hx:=fK hf x
 rw [hx0] at hx
 obtain ⟨b,cur,e,hv,hτ,hI,hl,hc,hh,hr⟩:=hx.mptr_inv
 exact .same hi (v:=.pointer (some ⟨b,i*sz+(off+y.offset),none⟩)) (by simp only [execOp,hv,Sem.run_bind,hrun,Result.andThen_ok,Sem.run_pure,kM]) (.mptr _ _ _ _ _ ⟨b,cur,e,rfl,hτ,hI,hl,hc,hh,hr⟩) hk
theorem aPr {x:Operand}{v:AV} (hi:tT c g w σ) (hf:yV g w a.tmps fr) (h:avv P ⟨dst,.nilCheck x,ty,pos,after,guard⟩ fr.ev v) (hk:K .none v σ):rU P c ⟨dst,.nilCheck x,ty,pos,after,guard⟩ a.eval w g K:=by
 obtain ⟨t0,sz,i,off,row,hx0,rfl⟩:=h
 have hx:=fK hf x
 rw [hx0] at hx
 have hx':=hx
 obtain ⟨b,cur,e,hv,_⟩:=hx.mptr_inv
 exact .same hi (by simp [execOp,hv]) (hv ▸ hx') hk
theorem aVb {t:TypeId}{x:Operand}{v:AV} (hi:tT c g w σ) (hf:yV g w a.tmps fr) (h:avv P ⟨dst,.load t x,ty,pos,after,guard⟩ fr.ev v) (hk:K .none v σ):rU P c ⟨dst,.load t x,ty,pos,after,guard⟩ a.eval w g K:=by
 obtain ⟨ag,n,t0,sz,i,off,row,ht,hx0,h⟩:=h
 have hx:=fK hf x
 rw [hx0] at hx
 obtain ⟨b,cur,e,hvx,hτ,hI,hl,hc,hh,hr⟩:=hx.mptr_inv
 rcases h with ⟨rfl,hfit,rfl⟩ | ⟨rfl,p,hp,rfl⟩
 ·
  refine .same hi (v:=.agg (cur.extract (i*sz+off) (i*sz+off+n))) ?_ (.agg _ _ (by simp;omega) fun j u q hu hq=>?_) hk
  ·
   have:=aEs (P:=P) (w:=w) (a:=⟨b,i*sz+off,none⟩) (cur.extract (i*sz+off) (i*sz+off+n)).toList ht (by simp;omega) (fun j v hv=>by
    rw [tE,aDe hh]
    rw [dS,lL] at hv
    split at hv
    ·
     exact hv
    ·
     cases hv)
   have e1:(cur.extract (i*sz+off) (i*sz+off+n)).toList.toArray=cur.extract (i*sz+off) (i*sz+off+n):=by simp only [Array.toArray_toList]
   rw [e1] at this
   simp only [execOp,hvx,Instr.loadAt,Instr.sureAddr,Sem.run_bind,Sem.run_pure,Result.andThen_ok,this,Sem.run_map]
  ·
   rw [bY,bV] at hq
   obtain ⟨q,hq,rfl⟩:=hq
   rw [lZ] at hq
   split at hq
   ·
    rw [hO] at hq
    obtain ⟨u',hu',hr'⟩:=hr _ q hq
    rw [lL] at hu
    split at hu
    ·
     rw [show i*sz+off+j=i*sz+(off+j) by omega,hu'] at hu
     cases hu
     exact .c hr'
    ·
     cases hu
   ·
    cases hq
 ·
  obtain ⟨u,hu,hr'⟩:=hr off p hp
  have hcell:w.cell? ⟨b,i*sz+off,none⟩=some u:=by rw [aDe hh];exact hu
  exact .same hi (v:=u) (by simp [execOp,hvx,Instr.loadAt,Instr.sureAddr,aCJ ht hcell]) (.c hr') hk
theorem aT1 {t:TypeId}{x:Operand}{v:AV} (hi:tT c g w σ) (hf:yV g w a.tmps fr) (h:avv P ⟨dst,.unOp .xor t x,ty,pos,after,guard⟩ fr.ev v) (hk:K .none v σ):rU P c ⟨dst,.unOp .xor t x,ty,pos,after,guard⟩ a.eval w g K:=by
 obtain ⟨k,n,hx0,rfl⟩:=h
 have hx:=fK hf x
 rw [hx0] at hx
 generalize hvx:a.eval x=vx at hx
 cases hx.c_inv
 exact .same hi (by simp [execOp,hvx,Op.unary,Op.intBits,lR]) (.c (.int _ _)) hk
theorem aQr {o:Oper}{v:AV} (hi:tT c g w σ) (hf:yV g w a.tmps fr) (h:avv P o fr.ev v) (hk:K .none v σ):rU P c o a.eval w g K:=by
 obtain ⟨dst,op,ty,pos,after,guard⟩:=o
 cases op
 case slice t x lo hi' mx =>
  cases lo with
  | some _=>exact (by simp only [avv] at h)
  | none =>
   cases hi' with
   | some _=>exact (by simp only [avv] at h)
   | none =>
    cases mx with
    | some _=>exact (by simp only [avv] at h)
    | none=>exact aT2 hi hf h hk
 case indexAddr t x ix=>exact aN6 hi hf h hk
 case fieldAddr t x f=>exact aN5 hi hf h hk
 case nilCheck x=>exact aPr hi hf h hk
 case load t x=>exact aVb hi hf h hk
 case unOp op t x =>
  cases op with
  | xor=>exact aT1 hi hf h hk
  | _=>exact (by simp only [avv] at h)
 case call cl =>
  obtain ⟨callee,args,argTypes⟩:=cl
  cases callee with
  | builtin b =>
   cases b
   case len=>exact aVU hi hf h hk
   all_goals exact (by simp only [avv] at h)
  | _=>exact (by simp only [avv] at h)
 all_goals exact (by simp only [avv] at h)
theorem Src.mrow {v:Value}{t sz:Nat}{ys:List (List PV)} (h:aQh g w v t sz ys):∃ news,Src P w sz v ys.length news∧∀ (i j:Nat) (x:List PV) (p:PV),ys[i]?=some x→x[j]?=some p→∃ u,news[i*sz+j]?=some u∧RV g.I w u p:=by
 obtain ⟨h0,hs,e,cells,ho,hv,hb⟩:=h
 rcases ho.2 with ⟨rfl,hn⟩ | ⟨b,cap,cur,rfl,_,hg,hnc,_,hcs,htake⟩
 ·
  have hy:ys=[]:=eM hn
  subst hy
  refine ⟨[],⟨fun W=>rfl,?_,?_,by simp,by simp⟩,by simp⟩ <;> simp [Builtin.firstCells,loadCells,loadCellsFrom]
 ·
  have hl:cells.length=ys.length*sz:=ho.1
  have hcell:∀ j u,cells[j]?=some u→w.cell? ((⟨b,0,none⟩:Addr).add j)=some u:=ho.cells (g:=b) rfl
  refine ⟨cells,⟨fun W=>rfl,run_firstCells_some w sz _ _ _ _ _ hl hcell,run_firstCells_some w.drew sz _ _ _ _ _ hl (by simpa using hcell),hl,fun u hu=>?_⟩,hv⟩
  obtain ⟨k,hk⟩:=kG hu
  have hkl:=(bR.1 hk).1
  rw [hl] at hkl
  have h1:k / sz<ys.length:=(pR h0).2 hkl
  have hlx:=hs _ (bN h1)
  have h2:k % sz<(ys[k / sz]).length:=by rw [hlx];exact Nat.mod_lt _ h0
  obtain ⟨u',hu',hr⟩:=hv (k / sz) (k % sz) _ _ (aM h1) (aM h2)
  rw [Nat.div_add_mod',hk] at hu'
  cases hu'
  exact hr.one
theorem aJw {α:Type}{sz:Nat}:∀ {xs:List (List α)},(∀ x∈xs,x.length=sz)→∀ {i j:Nat}{x:List α}{p:α},xs[i]?=some x→x[j]?=some p→xs.flatten[i*sz+j]?=some p
 | [],_,i,j,x,p,h,_=>by simp at h
 | y :: l,hl,i,j,x,p,h,hp=>by
  have hy:=hl y (by simp)
  rw [List.flatten_cons]
  cases i with
  | zero =>
   simp at h
   subst h
   rw [Nat.zero_mul,jF,cQ (bR.1 hp).1]
   exact hp
  | succ i =>
   simp at h
   rw [dL (by rw [hy,fO];omega),hy,fO,show i*sz+1*sz+j - sz=i*sz+j by omega]
   exact aJw (fun z hz=>hl z (by simp [hz])) h hp
theorem Src.view (hi:tT c g w σ) {v:Value}{id off m sz:Nat}{cs:List AV}{ys:List (List PV)} (h:nA g w v (.view id off m)) (hs:σ[id]?=some cs) (hl:ys.length=m) (hy:∀ y∈ys,y.length=sz) (he:(cs.drop off).take (m*sz)=ys.flatten.map AV.c) :
  ∃ news,Src P w sz v ys.length news∧∀ (i j:Nat) (x:List PV) (p:PV),ys[i]?=some x→x[j]?=some p→∃ u,news[i*sz+j]?=some u∧RV g.I w u p:=by
 cases h with
 | view _ _ _ b cap hb hn =>
  obtain ⟨cur,e,hh,hc⟩:=hi.store id cs b hs hb
  have hcl:cur.size=cs.length:=hc.1
  have hfl:ys.flatten.length=ys.length*sz:=aBn hy
  have hlen:((cs.drop off).take (m*sz)).length=m*sz:=by rw [he,gG,hfl,hl]
  have hsub:=hc.sub off (m*sz)
  rw [he] at hsub
  have hsz:(cur.extract off (off+m*sz)).size=m*sz:=by rw [hsub.1,gG,hfl,hl]
  have hget:∀ (j:Nat) (u:Value),(cur.extract off (off+m*sz)).toList[j]?=some u→∃ p:PV,ys.flatten[j]?=some p∧RV g.I w u p:=by
   intro j u hu
   have hj:=(bR.1 hu).1
   rw [iS,hsz,← hl,← hfl] at hj
   refine ⟨ys.flatten[j],aM hj,?_⟩
   exact (hsub.2 j u (.c ys.flatten[j]) (by rw [dS] at hu;exact hu) (by rw [bY,aM hj];rfl)).c_inv
  have hcell:∀ (j:Nat) (u:Value),(cur.extract off (off+m*sz)).toList[j]?=some u→w.cell? ((⟨b,off,none⟩:Addr).add j)=some u:=by
   intro j u hu
   rw [tE,aDe hh]
   rw [dS,lL] at hu
   split at hu
   ·
    exact hu
   ·
    cases hu
  have hl2:(cur.extract off (off+m*sz)).toList.length=ys.length*sz:=by rw [iS,hsz,hl]
  refine ⟨_,⟨fun W=>by simp [Builtin.lenOf,hl],?_,?_,hl2,fun u hu=>?_⟩,fun i j x p hx hp=>?_⟩
  ·
   exact run_firstCells_some w sz _ _ _ _ _ hl2 hcell
  ·
   exact run_firstCells_some w.drew sz _ _ _ _ _ hl2 (by simpa using hcell)
  ·
   obtain ⟨k,hk⟩:=kG hu
   obtain ⟨p,_,hr⟩:=hget k u hk
   exact hr.one
  ·
   have hp':=aJw hy hx hp
   have hj:=(bR.1 hp').1
   have hj2:i*sz+j<(cur.extract off (off+m*sz)).toList.length:=by rw [hl2,← hfl];exact hj
   obtain ⟨q,hq,hr⟩:=hget (i*sz+j) _ (aM hj2)
   rw [hp'] at hq
   cases hq
   exact ⟨_,aM hj2,hr⟩
theorem aNu (hi:tT c g w σ) (f:Nat→Bool) (T:Nat) (hT:f T=true) {w':World}{vb vb':Option Nat} (hos:w'.os=w.os) (htape:w'.tape=w.tape) (hout:w'.output=w.output) (hsz:w.heap.size≤w'.heap.size)
  (hother:∀ k,k<w.heap.size→vb≠some k→w'.heap[k]?=w.heap[k]?) (hvb:∀ b,vb=some b→∃ t0,f t0=true∧g.τ t0=some b) (hvI:∀ b,vb=some b→∀ o,¬g.I b o)
  (hv':∀ b,vb'=some b→(vb=some b∨b=w.heap.size)∧b<w'.heap.size) :
  ∃ g',tT c g' w' (σ.dem f)∧Stp (g.dem f) w g' w'∧g'.I=g.I∧∀ b,vb'=some b→g'.τ T=some b∧∀ o,¬g'.I b o:=by
 let g':G:={ I:=g.I,β:=g.β,τ:=fun t=>if t=T then vb' else if f t then none else g.τ t }
 have hIb:∀ b o,g.I b o→vb≠some b:=fun b o h hb=>hvI b hb o h
 have hcell:∀ b o,g.I b o→w'.cell? ⟨b,o,none⟩=w.cell? ⟨b,o,none⟩:=fun b o h=>by simp [World.cell?,hother b (hi.Ilt b o h) (hIb b o h)]
 have hfresh:∀ t b,g.τ t=some b→f t=false→vb≠some b:=by
  intro t b ht hft hvb'
  obtain ⟨t0,hf0,ht0⟩:=hvb b hvb'
  have:=hi.τinj t t0 b ht ht0
  subst this
  rw [hft] at hf0
  cases hf0
 have st:Stp (g.dem f) w g' w':=by
  refine ⟨fun b o h=>h,hcell,fun _ _ h=>h,fun t b htb=>?_⟩
  simp only [G.dem] at htb
  split at htb
  ·
   cases htb
  ·
   rename_i hft
   have hft:f t=false:=by simpa using hft
   have hne:=hfresh t b htb hft
   refine ⟨?_,hother b (hi.τnew t b htb).2.1 hne,fun o h=>h⟩
   show (if t=T then vb' else if f t then none else g.τ t)=some b
   rw [aY (by rintro rfl;rw [hT] at hft;cases hft),aY (by simp [hft])]
   exact htb
 have hβne:∀ b∈g.β,vb≠some b:=by
  intro b hb hvb'
  obtain ⟨t0,_,ht0⟩:=hvb b hvb'
  exact (hi.τnew t0 b ht0).2.2 hb
 have hv0:∀ b,vb=some b→c.w0.heap.size≤b∨c.O0 b:=by
  intro b hvb'
  obtain ⟨t0,_,ht0⟩:=hvb b hvb'
  exact (hi.τnew t0 b ht0).1
 have hnewge:∀ b,vb'=some b→c.w0.heap.size≤b∨c.O0 b:=by
  intro b hb
  rcases (hv' b hb).1 with h | rfl
  ·
   exact hv0 b h
  ·
   exact .inl hi.size
 have hβ':∀ b∈g.β,vb'≠some b:=by
  intro b hb hvb'
  rcases (hv' b hvb').1 with h | h
  ·
   exact hβne b hb h
  ·
   have:=hi.βlt b hb
   omega
 refine ⟨g',⟨hos.trans hi.os,htape.trans hi.tape,hout.trans hi.output,hG hi.size hsz,fun b hb hn ho'=>?_,hi.Ile,hi.Iold,fun b o h=>fG (hi.Ilt b o h) hsz,hi.βpre,hi.βnew,hi.βnd,?_,hi.βI,
   fun b hb=>fG (hi.βlt b hb) hsz,fun t b htb=>?_,fun t t' b h1 h2=>?_,fun id cs b hs' hb'=>?_,fun b o h=>(st.cell b o (hi.Ile b o h)).trans (hi.cell0 b o h),hi.glo⟩,st,rfl,fun b hb=>⟨?_,fun o h=>?_⟩⟩
 ·
  rw [hother b (fG hb hi.size) (fun h=>by rcases hv0 b h with h1 | h1;omega;exact ho' h1)]
  exact hi.old b hb hn ho'
 ·
  rw [St.dem_eq,gG]
  exact hi.βlen
 ·
  change (if t=T then vb' else if f t then none else g.τ t)=some b at htb
  split at htb
  ·
   exact ⟨hnewge b htb,(hv' b htb).2,fun hb=>hβ' b hb htb⟩
  ·
   split at htb
   ·
    cases htb
   ·
    obtain ⟨h1,h2,h3⟩:=hi.τnew t b htb
    exact ⟨h1,fG h2 hsz,h3⟩
 ·
  change (if t=T then vb' else if f t then none else g.τ t)=some b at h1
  change (if t'=T then vb' else if f t' then none else g.τ t')=some b at h2
  have key:∀ s,f s=false→g.τ s=some b→vb'≠some b:=by
   intro s hfs hs' hvb'
   rcases (hv' b hvb').1 with h | h
   ·
    exact hfresh s b hs' hfs h
   ·
    have:=(hi.τnew s b hs').2.1
    omega
  split at h1
  ·
   rename_i e1
   split at h2
   ·
    rename_i e2
    rw [e1,e2]
   ·
    split at h2
    ·
     cases h2
    ·
     rename_i hf2
     exact absurd h1 (key t' (by simpa using hf2) h2)
  ·
   split at h1
   ·
    cases h1
   ·
    rename_i hf1
    split at h2
    ·
     exact absurd h2 (key t (by simpa using hf1) h1)
    ·
     split at h2
     ·
      cases h2
     ·
      exact hi.τinj t t' b h1 h2
 ·
  obtain ⟨cur,e1,hh,hr⟩:=(hi.dem f).store id cs b hs' hb'
  have hmem:b∈g.β:=dA hb'
  exact ⟨cur,e1,(hother b (hi.βlt b hmem) (hβne b hmem)).trans hh,hr.stp st⟩
 ·
  show (if T=T then vb' else _)=some b
  simp [hb]
 ·
  rcases (hv' b hb).1 with h1 | h1
  ·
   exact hvI b h1 o h
  ·
   have:=hi.Ilt b o h
   omega
theorem aVc {t:TypeId}{l cp:Operand}{dm:Option (Nat→Bool)}{v:AV}{σ':St} (hi:tT c g w σ) (hf:yV g w a.tmps fr) (h:axg P ⟨dst,.makeSlice t l cp,ty,pos,after,guard⟩ fr.ev σ dm v σ') (hk:K dm v σ'):rU P c ⟨dst,.makeSlice t l cp,ty,pos,after,guard⟩ a.eval w g K:=by
 obtain ⟨e,sz,by_,z,k,k',n,ps,ht,hz,hl0,hc0,h0,hb,h63,hd,hps,rfl,rfl,rfl⟩:=h
 obtain ⟨hu,i,zv,hin,hzv,hzs,hpos,hsz,hby⟩:=vR ht
 have hl:=fK hf l
 have hcp:=fK hf cp
 rw [hl0] at hl
 rw [hc0] at hcp
 generalize hvl:a.eval l=vl at hl
 generalize hvc:a.eval cp=vc at hcp
 cases hl.c_inv
 cases hcp.c_inv
 have hrun:=run_make (P:=P) w t e i zv hu hin hzv k k' n n h0 (Int.le_refl _) (by rw [hby];exact hb) h63
 unfold mM at hz
 simp only [hin,hzv,dB] at hz
 subst hz
 subst hsz
 have hpl:ps.length=i.size:=by rw [aJS hps,gG,iS,hzs]
 have hnz:∀ (b:Nat),(if n.toNat=0 then none else some w.heap.size)=some b→b=w.heap.size:=by intro b h;split at h <;> simp_all
 obtain ⟨d,rfl⟩:=jS.1 hd
 obtain ⟨g',hi',st,hI,hτ⟩:=aNu hi (qP (some d)) (sQ (some d)) (aEr d) (w':=w.alloc (.cells (madeCells zv.cells (n.toNat*i.size)) e)) (vb:=none) (vb':=some w.heap.size) rfl rfl rfl (by simp) (fun k hk _=>Go.RowKit.Below.heap_alloc w _ k hk) (by simp) (by simp)
  (fun b hb=>by cases hb;exact ⟨.inr rfl,by simp⟩)
 refine ⟨.value (.slice (some ⟨w.heap.size,0,none⟩) n.toNat n.toNat),_,_,_,_,_,g',by simp [execOp,hvl,hvc,hrun],.inl rfl,hk,hi',st,.mrow _ _ _ ⟨hpos,?_,e,(madeCells zv.cells (n.toNat*i.size)).toList,?_,fun q j x p hx hp=>?_,fun b hb=>hτ b hb⟩⟩
 ·
  intro x hx
  rw [List.eq_of_mem_replicate hx]
  exact hpl
 ·
  rw [List.length_replicate]
  refine ⟨by simp [size_madeCells],.inr ⟨w.heap.size,n.toNat,_,rfl,Nat.zero_le _,heap_alloc_new w _,eP _,by unfold maxLen;omega,size_madeCells _ _,?_⟩⟩
  rw [hZ (by simp [size_madeCells])]
 ·
  have hq:=(bR.1 hx).1
  rw [List.length_replicate] at hq
  have hx':=List.eq_of_mem_replicate (dA hx)
  subst hx'
  have hj:=(bR.1 hp).1
  rw [hpl] at hj
  have hlt:q*i.size+j<n.toNat*i.size:=by
   have:(q+1)*i.size≤n.toNat*i.size:=gZ _ hq
   rw [fO] at this
   omega
  have hzj:j<zv.cells.size:=by rw [hzs];exact hj
  refine ⟨zv.cells[j],?_,?_⟩
  ·
   have hmod:(q*i.size+j) % zv.cells.size=j:=by rw [hzs,oV,Nat.mul_add_mod];exact Nat.mod_eq_of_lt hj
   simp [madeCells,hlt,hmod,hzj]
  ·
   obtain ⟨a',ha',hp'⟩:=aPT hps j p hp
   rw [bY,bV] at ha'
   obtain ⟨u,hu',rfl⟩:=ha'
   have:u=zv.cells[j]:=by rw [dS,eQ hzj] at hu';exact (iD hu').symm
   subst this
   exact (nA.ofFlat g' _ _).pv hp'
theorem aSP {args:Array Operand}{argTypes:Array TypeId}{dm:Option (Nat→Bool)}{v:AV}{σ':St} (hi:tT c g w σ) (hf:yV g w a.tmps fr) (h:axg P ⟨dst,.call { callee:=.builtin .append,args,argTypes },ty,pos,after,guard⟩ fr.ev σ dm v σ') (hk:K dm v σ') :
  rU P c ⟨dst,.call { callee:=.builtin .append,args,argTypes },ty,pos,after,guard⟩ a.eval w g K:=by
 obtain ⟨s,x,t,tx,e,sz,by_,f,xs,ys,hargs,hty,hts,hb0,h3,hd,hrows,hbytes,hfT,rfl,rfl,hx0,hs0⟩:=h
 obtain rfl:=aLq hargs
 obtain rfl:=aLq hty
 obtain ⟨d,rfl⟩:=jS.1 hd
 obtain ⟨e1,he⟩:=aLC h3
 have hs:=fK hf s
 have hx:=fK hf x
 obtain ⟨hu,i,z,hinf,hz,hzs,hpos,hsz,hby⟩:=vR hts
 have hpos':0<sz:=hsz ▸ hpos
 have hsrc:∃ news,Src P w sz (a.eval x) ys.length news∧∀ (i j:Nat) (y:List PV) (p:PV),ys[i]?=some y→y[j]?=some p→∃ u,news[i*sz+j]?=some u∧RV g.I w u p:=by
  rcases hx0 with h | ⟨t0,h⟩ | ⟨t0,h⟩ | ⟨h,rfl⟩ | ⟨id,off,m,cs,h,hcs,hl,he⟩ <;> rw [h] at hx
  ·
   exact Src.list hx.c_inv
  ·
   exact Src.list hx.own_inv.rv
  ·
   exact Src.mrow hx.mut_inv
  ·
   have hx':RV g.I w (a.eval x) (.list sz []):=by
    generalize a.eval x=vx at hx
    cases hx
    exact .empty .none 0 sz
   exact Src.list hx'
  ·
   exact Src.view hi hx hcs hl hrows he
 obtain ⟨news,hsrc,hn⟩:=hsrc
 have h63:xs.length+ys.length≤9223372036854775807:=by
  have:=Nat.le_mul_of_pos_right (xs.length+ys.length) hb0
  omega
 have hrun:∀ v' w',(Builtin.append_ #[t,tx] ty #[a.eval s,a.eval x]).run P w=.ok v' w'→(execOp a.eval ⟨some d,.call { callee:=.builtin .append,args:=#[s,x],argTypes:=#[t,tx] },ty,pos,after,guard⟩).run P w=.ok (.value v') w':=by
  intro v' w' hr
  obtain ⟨cs,hcs⟩:=yI (dst:=some d) (ty:=ty) (pos:=pos) (after:=after) (guard:=guard) .append #[s,x] #[t,tx] a.eval
  rw [hcs]
  simp only [builtin,Sem.run_bind,List.map_toArray,iN,sZ,hr,Result.andThen_ok,Sem.run_pure]
 rcases hs0 with ⟨hs0,rfl⟩ | ⟨hs0,rfl⟩
 ·
  have hv:(a.eval s=.slice none 0 0∧xs=[])∨∃ t0,f t0=true∧aMK g w (a.eval s) t0 sz xs:=by
   rcases hs0 with ⟨h,rfl⟩ | ⟨t0,hft,h⟩ <;> rw [h] at hs
   ·
    left
    refine ⟨?_,rfl⟩
    generalize a.eval s=vs at hs
    cases hs
    rfl
   ·
    exact .inr ⟨t0,hft,hs.own_inv⟩
  obtain ⟨v',w',g',hr,hi',st,hrv⟩:=aGr hi f (sQ (some d)) hfT (ty:=ty) hts he (.inr ⟨e1,rfl⟩) hv hsrc hn hrows hbytes h63
  exact ⟨_,v',w',_,_,_,g',hrun v' w' hr,.inl rfl,hk,hi',st,hrv⟩
 ·
  obtain ⟨e0,cells,hown,hcells,hxrows,hblk⟩:∃ e0 cells,w.ownsRow 0 e0 sz (a.eval s) xs.length cells ∧
    (∀ (i j:Nat) (x:List PV) (p:PV),xs[i]?=some x→x[j]?=some p→∃ u,cells[i*sz+j]?=some u∧RV g.I w u p)∧(∀ y∈xs,y.length=sz) ∧
    ∀ b,(a.eval s).ownBlock=some b→(∃ t0,f t0=true∧g.τ t0=some b)∧∀ o,¬g.I b o:=by
   rcases hs0 with ⟨h,rfl⟩ | ⟨t0,hft,h,rfl⟩ | ⟨t0,hft,h⟩ <;> rw [h] at hs
   ·
    generalize a.eval s=vs at hs
    cases hs
    exact ⟨e,[],World.ownsRow_nil w 0 e sz,by simp,by simp,by simp [Value.ownBlock]⟩
   ·
    obtain ⟨_,_,e0,cells,ho,_,hb⟩:=hs.own_inv
    exact ⟨e0,cells,ho,by simp,by simp,fun b hb'=>⟨⟨t0,hft,(hb b hb').1⟩,fun o h=>by have:=((hb b hb').2 o).1 h;simp at this⟩⟩
   ·
    obtain ⟨_,hrow,e0,cells,ho,hc,hb⟩:=hs.mut_inv
    exact ⟨e0,cells,ho,hc,hrow,fun b hb'=>⟨⟨t0,hft,(hb b hb').1⟩,(hb b hb').2⟩⟩
  obtain ⟨v',w',e',hr,hown',hos,htape,hout,halt⟩:=aEL w t tx ty e e0 _ i z sz by_ hu he (.inr ⟨e1,rfl⟩) hinf hz hsz hby (hsz ▸ hzs) (a.eval s) (a.eval x) xs.length ys.length cells news hown hsrc hbytes h63
  have hsizele:w.heap.size≤w'.heap.size:=by rcases halt with ⟨_,h,_⟩ | ⟨_,h,_⟩ <;> omega
  have hother:∀ k,k<w.heap.size→(a.eval s).ownBlock≠some k→w'.heap[k]?=w.heap[k]?:=by
   intro k hk hne
   rcases halt with ⟨_,_,h⟩ | ⟨_,_,h⟩
   ·
    exact h k (fun h=>hne h.symm)
   ·
    exact h k hk
  have hv'blk:∀ b,v'.ownBlock=some b→((a.eval s).ownBlock=some b∨b=w.heap.size)∧b<w'.heap.size:=by
   intro b hb
   refine ⟨?_,(hown'.lt b hb).2⟩
   rcases halt with ⟨h,_,_⟩ | ⟨h,_,_⟩
   ·
    exact .inl (h ▸ hb)
   ·
    right;rw [h] at hb;exact (iD hb).symm
  obtain ⟨g',hi',st,hI,hτ⟩:=aNu hi f (sQ (some d)) hfT hos htape hout hsizele hother (fun b hb=>(hblk b hb).1) (fun b hb=>(hblk b hb).2) hv'blk
  refine ⟨_,v',w',_,_,_,g',hrun v' w' hr,.inl rfl,hk,hi',st,.mrow _ _ _ ⟨hpos',?_,e',cells++news,by rw [aF];exact hown',?_,fun b hb=>hτ b hb⟩⟩
  ·
   intro y hy
   rcases gV.1 hy with h | h
   ·
    exact hxrows y h
   ·
    exact hrows y h
  ·
   intro i j y p hy hp
   have hcl:cells.length=xs.length*sz:=hown.1
   have hmono:∀ {u p},RV g.I w u p→RV g'.I w' u p:=fun h=>h.mono (fun b o h=>by rw [hI];exact h) st.cell
   by_cases hil:i<xs.length
   ·
    rw [cQ hil] at hy
    obtain ⟨u,hu',hr⟩:=hcells i j y p hy hp
    refine ⟨u,?_,hmono hr⟩
    rw [cQ (bR.1 hu').1]
    exact hu'
   ·
    rw [dL (by omega)] at hy
    obtain ⟨u,hu',hr⟩:=hn _ j y p hy hp
    refine ⟨u,?_,hmono hr⟩
    have hge:xs.length*sz≤i*sz:=gZ _ (by omega)
    rw [dL (by omega),hcl,← hu']
    congr 1
    rw [Nat.sub_mul]
    omega
theorem aQu {o:Oper}{dm:Option (Nat→Bool)}{v:AV}{σ':St} (hi:tT c g w σ) (hf:yV g w a.tmps fr) (h:axg P o fr.ev σ dm v σ') (hk:K dm v σ'):rU P c o a.eval w g K:=by
 obtain ⟨dst,op,ty,pos,after,guard⟩:=o
 cases op
 case makeSlice t l cp=>exact aVc hi hf h hk
 case call cl =>
  obtain ⟨callee,args,argTypes⟩:=cl
  cases callee with
  | builtin b =>
   cases b
   case append=>exact aSP hi hf h hk
   all_goals exact (by simp only [axg] at h)
  | _=>exact (by simp only [axg] at h)
 all_goals exact (by simp only [axg] at h)
end
def aEm (P:Program) (o:Oper) (ev:Operand→AV) (σ:St) (K:Option (Nat→Bool)→AV→St→Prop):Prop :=
 eG P o ev σ K∨(∃ v,axv P o ev v∧K .none v σ)∨(∃ v,avv P o ev v∧K .none v σ)∨∃ dm v σ',axg P o ev σ dm v σ'∧K dm v σ'
theorem aJn {P:Program}{c:Ctx}{g:G}{w:World}{σ:St}{K:Option (Nat→Bool)→AV→St→Prop}{a:Act}{fr:Fr}{o:Oper} (hd:o.dst.isSome=true∨∃ t x y,o.op=.store t x y) (hi:tT c g w σ) (hf:yV g w a.tmps fr) (h:aEm P o fr.ev σ K):rU P c o a.eval w g K:=by
 rcases h with h | ⟨v,h,hk⟩ | ⟨v,h,hk⟩ | ⟨dm,v,σ',h,hk⟩
 ·
  exact aMW hd hi hf h
 ·
  exact aQw hi hf h hk
 ·
  exact aQr hi hf h hk
 ·
  exact aQu hi hf h hk
def AV.le (a b:AV):Prop:=∀ g w v,nA g w v a→nA g w v b
theorem AV.le_refl (a:AV):a.le a:=fun _ _ _ h=>h
theorem AV.le_any (a:AV):a.le .any:=fun _ _ _ _=>.any
theorem AV.le_nil_list (sz:Nat):AV.nil.le (.c (.list sz [])):=fun g w v h=>by cases h;exact .c (.empty _ _ _)
theorem AV.le_nil_own (t sz:Nat) (h0:0<sz):AV.nil.le (.own t sz []):=fun g w v h=>by
 cases h
 exact .own t sz [] ⟨h0,by simp,0,[],World.ownsRow_nil w 0 0 sz,by simp,by simp [Value.ownBlock]⟩
theorem AV.le_own_list (t sz:Nat) (xs:List (List PV)):(AV.own t sz xs).le (.c (.list sz xs)):=fun g w v h=>.c h.own_inv.rv
inductive AV.leL:List AV→List AV→Prop
 | nil:AV.leL [] []
 | cons {a b:AV}{as bs:List AV} (h:a.le b) (t:AV.leL as bs):AV.leL (a :: as) (b :: bs)
theorem AV.leL_refl:∀ l:List AV,AV.leL l l
 | []=>.nil
 | a :: as=>.cons (AV.le_refl a) (AV.leL_refl as)
theorem gB.le {g:G}{w:World}{vs:Array Value}:∀ {as bs:List AV},AV.leL as bs→gB g w vs as→gB g w vs bs:=by
 intro as bs h
 have key:as.length=bs.length∧∀ (i:Nat) (b:AV),bs[i]?=some b→∃ a,as[i]?=some a∧a.le b:=by
  induction h with
  | nil=>exact ⟨rfl,by simp⟩
  | cons h t ih =>
   refine ⟨by simp [ih.1],fun i b hb=>?_⟩
   cases i with
   | zero=>simp at hb;subst hb;exact ⟨_,rfl,h⟩
   | succ i=>simp at hb;simpa using ih.2 i b hb
 intro hc
 refine ⟨hc.1.trans key.1,fun i v b hv hb=>?_⟩
 obtain ⟨a,ha,hle⟩:=key.2 i b hb
 exact hle g w v (hc.2 i v a hv ha)
theorem AV.le_agg {as bs:List AV} (h:AV.leL as bs):(AV.agg as).le (.agg bs):=fun g w v hv=>by
 cases hv with
 | agg vs cs h1 h2 =>
  have:=gB.le h (show gB g w vs as from ⟨h1,h2⟩)
  exact .agg vs bs this.1 this.2
theorem AV.le_tup {as bs:List AV} (h:AV.leL as bs):(AV.tup as).le (.tup bs):=fun g w v hv=>by
 cases hv with
 | tup vs cs h1 h2 =>
  have:=gB.le h (show gB g w vs as from ⟨h1,h2⟩)
  exact .tup vs bs this.1 this.2
mutual
def AV.lowT (lt ids:List Nat):AV→AV
 | .own t sz xs=>(match lt.idxOf? t with | some k=>.own (1600000+k) sz xs | _=>.c (.list sz xs))
 | .agg cs=>.agg (AV.lowTL lt ids cs)
 | .tup cs=>.tup (AV.lowTL lt ids cs)
 | .fn f cs=>.fn f (AV.lowTL lt ids cs)
 | .box id off=>(match ids.idxOf? id with | some k=>.box k off | _=>.any)
 | .ptrs _=>.any
 | .mrow ..=>.any
 | .mptr ..=>.any
 | .view id off n=>(match ids.idxOf? id with | some k=>.view k off n | _=>.any)
 | .pptr _=>.any
 | a=>a
def AV.lowTL (lt ids:List Nat):List AV→List AV
 | []=>[]
 | a :: as=>AV.lowT lt ids a :: AV.lowTL lt ids as
end
theorem AV.lowTL_eq (lt ids:List Nat) (l:List AV):AV.lowTL lt ids l=l.map (AV.lowT lt ids):=by
 induction l with
 | nil=>rfl
 | cons a l ih=>simp [AV.lowTL,ih]
abbrev AV.low (ids:List Nat) (a:AV):AV:=AV.lowT [] ids a
abbrev AV.lowL (ids:List Nat) (l:List AV):List AV:=AV.lowTL [] ids l
def aFg (lt:List Nat) (d:Nat):Nat→Bool:=fun t=>lt.contains t||t / 16==d
theorem aJs (d:Nat):aFg [] d=fun t=>t / 16==d:=by funext t;simp [aFg]
theorem aGA {l:List Nat}{t k:Nat} (h:l.idxOf? t=some k):l[k]?=some t:=by
 rw [List.idxOf?,List.findIdx?_eq_some_iff_getElem] at h
 obtain ⟨h1,h2,_⟩:=h
 rw [aM h1]
 simpa using h2
mutual
def AV.lift (ids:List Nat) (n d:Nat):AV→AV
 | .own t sz xs=>if t<16 then .own (16*d+t) sz xs else .c (.list sz xs)
 | .agg cs=>.agg (AV.liftL ids n d cs)
 | .tup cs=>.tup (AV.liftL ids n d cs)
 | .fn f cs=>.fn f (AV.liftL ids n d cs)
 | .box k off=>(match ids[k]? with | some i=>.box i off | _=>.box (n+(k - ids.length)) off)
 | .ptrs l=>.ptrs (l.map fun p=>((match ids[p.1]? with | some i=>i | _=>n+(p.1 - ids.length)),p.2))
 | .view k off m=>(match ids[k]? with | some i=>.view i off m | _=>.view (n+(k - ids.length)) off m)
 | .mrow t sz xs=>if t<16 then .mrow (16*d+t) sz xs else .any
 | .mptr ..=>.any
 | .pptr p=>.pptr ((match ids[p.1]? with | some i=>i | _=>n+(p.1 - ids.length)),p.2)
 | a=>a
def AV.liftL (ids:List Nat) (n d:Nat):List AV→List AV
 | []=>[]
 | a :: as=>AV.lift ids n d a :: AV.liftL ids n d as
end
theorem AV.liftL_eq (ids:List Nat) (n d:Nat) (l:List AV):AV.liftL ids n d l=l.map (AV.lift ids n d):=by
 induction l with
 | nil=>rfl
 | cons a l ih=>simp [AV.liftL,ih]
def aDd (P:Program) (f:FuncId):Bool:=match P.funcs[f]? with | some fn=>fn.name != "runtime.NumGoroutine"&&fn.body.isSome | _=>false
def cR (P:Program) (f:FuncId) (args:List AV) (σ:St) (r:AV) (σ':St):Prop :=
 aDd P f=true∧∀ (w:World) (I:Nat→Nat→Prop) (β:List Nat) (τ:Nat→Option Nat) (vs:Array Value),
  (∀ b o,I b o→b<w.heap.size)→β.Nodup→(∀ b∈β,b<w.heap.size)→(∀ b∈β,∀ o,¬I b o)→(∀ t b,τ t=some b→b<w.heap.size∧b ∉ β)→(∀ t t' b,τ t=some b→τ t'=some b→t=t')→β.length=σ.length →
  (∀ (id:Nat) cs b,σ[id]?=some cs→β[id]?=some b→aUs ⟨I,β,τ⟩ w b cs)→gB ⟨I,β,τ⟩ w vs args→Glo I w →
  Calls P f vs w fun e w'=>∃ v g',e=.returned v∧tT ⟨w,I,β,fun b=>∃ t,τ t=some b⟩ g' w' σ'∧nA g' w' v r
def aGG (lt:List Nat) (g:G):Nat→Option Nat:=fun j=>if 1600000≤j then (lt[j - 1600000]?).bind g.τ else none
theorem aNo (g:G):aGG [] g=fun _=>none:=by funext j;simp [aGG]
theorem nA.lowT {g:G}{w:World}{v:Value}{a:AV} (lt ids:List Nat) (β:List Nat) (hβ:∀ (k id:Nat) (b:Nat),ids[k]?=some id→g.β[id]?=some b→β[k]?=some b) (h:nA g w v a):nA ⟨g.I,β,aGG lt g⟩ w v (a.lowT lt ids):=by
 induction h with
 | c h=>exact .c h
 | nil=>exact .nil
 | own t sz xs h =>
  simp only [AV.lowT]
  split
  ·
   rename_i k hk
   obtain ⟨h0,hs,e,cells,ho,hv,hb⟩:=h
   exact .own _ sz xs ⟨h0,hs,e,cells,ho,hv,fun b hb'=>⟨by show aGG lt g (1600000+k)=some b;rw [aGG,bB (by omega),show 1600000+k - 1600000=k by omega,aGA hk];exact (hb b hb').1,(hb b hb').2⟩⟩
  ·
   exact .c h.rv
 | agg vs cs h _ ih =>
  simp only [AV.lowT,AV.lowTL_eq]
  refine .agg vs _ (by simpa using h) (fun i v a hv ha=>?_)
  simp only [bY,bV] at ha
  obtain ⟨a,ha,rfl⟩:=ha
  exact ih i v a hv ha
 | tup vs cs h _ ih =>
  simp only [AV.lowT,AV.lowTL_eq]
  refine .tup vs _ (by simpa using h) (fun i v a hv ha=>?_)
  simp only [bY,bV] at ha
  obtain ⟨a,ha,rfl⟩:=ha
  exact ih i v a hv ha
 | box id off b hb =>
  simp only [AV.lowT]
  split
  ·
   rename_i k hk
   exact .box k off b (hβ k id b (aGA hk) hb)
  ·
   exact .any
 | eptr b o off cs vs hc hv=>exact .eptr b o off cs vs hc hv
 | ptrs b o cap l hcap hc=>exact .any
 | mrow t sz xs h=>exact .any
 | mptr t sz i off row h=>exact .any
 | view id off n b cap hb hn =>
  simp only [AV.lowT]
  split
  ·
   rename_i k hk
   exact .view k off n b cap (hβ k id b (aGA hk) hb) hn
  ·
   exact .any
 | pptr b o bk p hi hb hc=>exact .any
 | fn k vs cs h _ ih =>
  simp only [AV.lowT,AV.lowTL_eq]
  refine .fn k vs _ (by simpa using h) (fun i v a hv ha=>?_)
  simp only [bY,bV] at ha
  obtain ⟨a,ha,rfl⟩:=ha
  exact ih i v a hv ha
 | nilptr=>exact .nilptr
 | any=>exact .any
theorem nA.low {g:G}{w:World}{v:Value}{a:AV} (ids:List Nat) (β:List Nat) (hβ:∀ (k id:Nat) (b:Nat),ids[k]?=some id→g.β[id]?=some b→β[k]?=some b) (h:nA g w v a):nA ⟨g.I,β,fun _=>none⟩ w v (a.low ids):=by
 have:=h.lowT [] ids β hβ
 rwa [aNo] at this
theorem gB.lowT {g:G}{w:World}{vs:Array Value}{cs:List AV} (lt ids:List Nat) (β:List Nat) (hβ:∀ (k id:Nat) (b:Nat),ids[k]?=some id→g.β[id]?=some b→β[k]?=some b) (h:gB g w vs cs):gB ⟨g.I,β,aGG lt g⟩ w vs (AV.lowTL lt ids cs):=by
 rw [AV.lowTL_eq]
 refine ⟨by simpa using h.1,fun i v a hv ha=>?_⟩
 simp only [bY,bV] at ha
 obtain ⟨a,ha,rfl⟩:=ha
 exact (h.2 i v a hv ha).lowT lt ids β hβ
theorem gB.low {g:G}{w:World}{vs:Array Value}{cs:List AV} (ids:List Nat) (β:List Nat) (hβ:∀ (k id:Nat) (b:Nat),ids[k]?=some id→g.β[id]?=some b→β[k]?=some b) (h:gB g w vs cs):gB ⟨g.I,β,fun _=>none⟩ w vs (AV.lowL ids cs):=by
 have:=h.lowT [] ids β hβ
 rwa [aNo] at this
theorem nA.lift {g1 g2:G}{w:World}{v:Value}{a:AV} (ids:List Nat) (n d:Nat) (hI:g2.I=g1.I)
  (hβ1:∀ (k i b:Nat),ids[k]?=some i→g1.β[k]?=some b→g2.β[i]?=some b) (hβ2:∀ (k b:Nat),ids[k]?=none→g1.β[k]?=some b→g2.β[n+(k - ids.length)]?=some b)
  (hτ:∀ (t b:Nat),t<16→g1.τ t=some b→g2.τ (16*d+t)=some b) (h:nA g1 w v a):nA g2 w v (a.lift ids n d):=by
 have hβ:∀ (k b:Nat),g1.β[k]?=some b→g2.β[(match ids[k]? with | some i=>i | _=>n+(k - ids.length))]?=some b:=by
  intro k b hb
  split
  ·
   rename_i i hi;exact hβ1 k i b hi hb
  ·
   rename_i hi;exact hβ2 k b (by cases h:ids[k]? <;> simp_all) hb
 induction h with
 | c h=>exact .c (hI ▸ h)
 | nil=>exact .nil
 | own t sz xs h =>
  simp only [AV.lift]
  split
  ·
   rename_i ht
   obtain ⟨h0,hs,e,cells,ho,hv,hb⟩:=h
   exact .own _ sz xs ⟨h0,hs,e,cells,ho,fun i j x p hx hp=>by rw [hI];exact hv i j x p hx hp,fun b hb'=>⟨hτ t b ht (hb b hb').1,fun o=>by rw [hI];exact (hb b hb').2 o⟩⟩
  ·
   exact .c (hI ▸ h.rv)
 | agg vs cs h _ ih =>
  simp only [AV.lift,AV.liftL_eq]
  refine .agg vs _ (by simpa using h) (fun i v a hv ha=>?_)
  simp only [bY,bV] at ha
  obtain ⟨a,ha,rfl⟩:=ha
  exact ih i v a hv ha
 | tup vs cs h _ ih =>
  simp only [AV.lift,AV.liftL_eq]
  refine .tup vs _ (by simpa using h) (fun i v a hv ha=>?_)
  simp only [bY,bV] at ha
  obtain ⟨a,ha,rfl⟩:=ha
  exact ih i v a hv ha
 | box k off b hb =>
  simp only [AV.lift]
  split
  ·
   rename_i i hi
   exact .box i off b (hβ1 k i b hi hb)
  ·
   rename_i hi
   exact .box _ off b (hβ2 k b (by cases h:ids[k]? <;> simp_all) hb)
 | eptr b o off cs vs hc hv=>exact .eptr b o off cs vs (fun j hj=>by rw [hI];exact hc j hj) (fun j p hp=>by rw [hI];exact hv j p hp)
 | view k off m b cap hb hn =>
  simp only [AV.lift]
  split
  ·
   rename_i i hi
   exact .view i off m b cap (hβ1 k i b hi hb) hn
  ·
   rename_i hi
   exact .view _ off m b cap (hβ2 k b (by cases h:ids[k]? <;> simp_all) hb) hn
 | mrow t sz xs h =>
  simp only [AV.lift]
  split
  ·
   rename_i ht
   obtain ⟨h0,hs,e,cells,ho,hv,hb⟩:=h
   exact .mrow _ sz xs ⟨h0,hs,e,cells,ho,fun i j x p hx hp=>by rw [hI];exact hv i j x p hx hp,fun b hb'=>⟨hτ t b ht (hb b hb').1,fun o=>by rw [hI];exact (hb b hb').2 o⟩⟩
  ·
   exact .any
 | mptr t sz i off row h=>exact .any
 | ptrs b o cap l hcap hc =>
  simp only [AV.lift]
  have:=nA.ptrs (g:=g2) (w:=w) b o cap (l.map fun p=>((match ids[p.1]? with | some i=>i | _=>n+(p.1 - ids.length)),p.2)) (by simpa using hcap) (fun i p hp=>?_)
  ·
   rwa [gG] at this
  ·
   rw [bY,bV] at hp
   obtain ⟨q,hq,rfl⟩:=hp
   obtain ⟨h1,bk,h2,h3⟩:=hc i q hq
   exact ⟨by rw [hI];exact h1,bk,hβ _ _ h2,h3⟩
 | pptr b o bk p hi hb hc=>exact .pptr b o bk _ (by rw [hI];exact hi) (hβ _ _ hb) hc
 | fn k vs cs h _ ih =>
  simp only [AV.lift,AV.liftL_eq]
  refine .fn k vs _ (by simpa using h) (fun i v a hv ha=>?_)
  simp only [bY,bV] at ha
  obtain ⟨a,ha,rfl⟩:=ha
  exact ih i v a hv ha
 | nilptr=>exact .nilptr
 | any=>exact .any
def St.upd (σ:St):List Nat→St→St
 | [],_=>σ
 | _ :: _,[]=>σ
 | i :: is,cs :: r=>St.upd (σ.set i cs) is r

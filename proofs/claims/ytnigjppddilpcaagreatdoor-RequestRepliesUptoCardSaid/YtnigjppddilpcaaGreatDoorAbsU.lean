/- From a law's data to plain values, and how many values and letters they hold. -/
import Derived.Test.YtnigjppddilpcaaGreatDoorAbs29
import Derived.Test.YtnigjppddilpcaaGreatDoorRows
namespace Go.Proofs.YtnigjppddilpcaaGreatDoor.Abs
open Go
set_option linter.unusedVariables false
set_option linter.unusedSimpArgs false
mutual
def PV.bulk:PV→Nat
 | .str s=>s.length+1
 | .list _ xs=>PV.bulkRows xs+1
 | _=>1
def PV.bulkRow:List PV→Nat
 | []=>0
 | p :: ps=>PV.bulk p+PV.bulkRow ps
def PV.bulkRows:List (List PV)→Nat
 | []=>0
 | r :: rs=>PV.bulkRow r+PV.bulkRows rs
end
theorem aMZ (a b:List PV):PV.bulkRow (a++b)=PV.bulkRow a+PV.bulkRow b:=by
 induction a with
 | nil=>simp [PV.bulkRow]
 | cons p a ih=>simp only [List.cons_append,PV.bulkRow,ih];omega
theorem aJo {H:Type} (d:DataW H):1≤Rows.uptoBulk d:=by
 cases d with
 | lit l=>cases l <;> simp [Rows.uptoBulk]
 | nil=>simp [Rows.uptoBulk]
 | ptr d=>simp [Rows.uptoBulk]
 | slice elems spare=>simp [Rows.uptoBulk]
 | agg parts=>simp [Rows.uptoBulk]
 | iface t d=>simp [Rows.uptoBulk]
 | map entries=>simp [Rows.uptoBulk]
 | held h=>simp [Rows.uptoBulk]
theorem aM0 {H:Type}:∀ (xs:List (List PV)) (ds:List (DataW H)),xs.length≤ds.length→(∀ (i:Nat) x d,xs[i]?=some x→ds[i]?=some d→PV.bulkRow x≤Rows.uptoBulk d)→PV.bulkRows xs≤Rows.uptoBulkAll ds
 | [],ds,_,_=>by simp [PV.bulkRows]
 | x :: xs,[],h,_=>by simp at h
 | x :: xs,d :: ds,h,hb=>by
  have h1:=hb 0 x d rfl rfl
  have h2:=aM0 xs ds (by simpa using h) (fun i x d h1 h2=>hb (i+1) x d (by simpa using h1) (by simpa using h2))
  simp only [PV.bulkRows,Rows.uptoBulkAll]
  omega
theorem aLB {H:Type}{P:Program}{W:World}{cs:List Value}{S:TypeId→List PV→Prop}:∀ (l:List Field) (ds:List (DataW H)) (o:Nat),aKe P o l=some cs.length→ds.length=l.length →
  (∀ (i:Nat) f d,l[i]?=some f→ds[i]?=some d→∃ ps,RVs W ((cs.drop f.offset).take (P.cellsOf f.type)) ps∧S f.type ps∧PV.bulkRow ps≤Rows.uptoBulk d)→∃ ps,RVs W (cs.drop o) ps∧aIV S (l.map (·.type)) ps∧PV.bulkRow ps≤Rows.uptoBulkAll ds
 | [],ds,o,h,_,_=>by
  simp only [aKe,dB] at h
  subst h
  exact ⟨[],⟨by simp,fun i v p h1=>by simp at h1⟩,rfl,by simp [PV.bulkRow]⟩
 | f :: r,[],o,h,hl,_=>by simp at hl
 | f :: r,d :: ds,o,h,hl,hf=>by
  simp only [aKe] at h
  split at h
  ·
   rename_i ho
   obtain ⟨ps,h1,h2,h5⟩:=hf 0 f d rfl rfl
   obtain ⟨qs,h3,h4,h6⟩:=aLB r ds _ h (by simpa using hl) (fun i f' d' h1 h2=>hf (i+1) f' d' (by simpa using h1) (by simpa using h2))
   refine ⟨ps++qs,?_,⟨ps,qs,rfl,h2,h4⟩,by rw [aMZ];simp only [Rows.uptoBulkAll];omega⟩
   have:=h1.app h3
   rw [ho,← oE,pQ] at this
   exact this
  ·
   cases h
theorem aSI {H:Type}{enc:TypeId × Value→H}{P:Program}{W:World}{spare:Nat→Bool}{held:Bool}{L:List TypeId} (hL:aL7 P L=true):∀ (fuel:Nat) (t:TypeId) (cs:List Value) (x:DataW H × List MemPlace),t∈L →
  DataW.trod enc P W 0 spare held fuel t cs=some x→(∀ y∈x.1.weights P t,y≤140737488351232)→∃ ps,RVs W cs ps∧oB P fuel t ps∧PV.bulkRow ps≤Rows.uptoBulk x.1:=by
 intro fuel
 induction fuel with
 | zero=>intro t cs x _ h;simp [DataW.trod] at h
 | succ n ih =>
  intro t cs x ht h hwt
  have hp:=cI.1 hL t ht
  split at hp
  ·
   rename_i hu
   obtain ⟨b,rfl,_⟩:=DataW.trod_bool hu h
   exact ⟨[.bool b],.one (.bool b),by simp [oB,hu],by simpa [PV.bulkRow,PV.bulk] using aJo _⟩
  ·
   rename_i k hu
   obtain ⟨m,rfl,_,hw⟩:=DataW.trod_int hu h
   exact ⟨[.int k m],.one (.int k m),by simp [oB,hu,hw],by simpa [PV.bulkRow,PV.bulk] using aJo _⟩
  ·
   rename_i hu
   obtain ⟨s,rfl,rfl,hs⟩:=DataW.trod_string hu h
   have hs2:=hwt s.data.toList.length (by simp [DataW.weights])
   refine ⟨[.str s.data.toList],.one ?_,?_,by simp [PV.bulkRow,PV.bulk,Rows.uptoBulk]⟩
   ·
    have:=RV.str (I:=old W) (w:=W) s.data.toList
    simpa using this
   ·
    simp only [oB,hu]
    exact ⟨_,rfl,hs2⟩
  ·
   rename_i e hu
   simp only [aR,bU,jG] at hp
   rcases DataW.trod_slice hu h with ⟨rfl,_⟩ | ⟨a,len,cap,elems,rest,m,hm,rfl,rfl,_,hlc,hcm,hel,hget,_⟩
   ·
    refine ⟨[.list (P.cellsOf e) []],.one (.empty _ _ _),?_,by simp [PV.bulkRow,PV.bulk,PV.bulkRows];exact aJo _⟩
    simp only [oB,hu]
    exact ⟨[],rfl,by simp,by simp,by simp⟩
   ·
    obtain rfl:n=m:=by omega
    have hwt2:∀ y∈(elems.length+rest.length)*P.bytesOf e :: (DataW.weightsAll P e (elems.map (·.1))++DataW.weightsAll P e (rest.map (·.1))),y≤140737488351232:=fun y hy=>hwt y (by
     have:DataW.weights P t (DataW.slice (elems.map (·.1)) (rest.map (·.1)))=(elems.length+rest.length)*P.bytesOf e :: (DataW.weightsAll P e (elems.map (·.1))++DataW.weightsAll P e (rest.map (·.1))):=by simp [DataW.weights,hu]
     simp only [this]
     exact hy)
    have hbytes:=hwt2 _ (List.mem_cons_self ..)
    have key:∀ i,i<len→∃ ps,(∃ csi,W.cells? 0 (a.add (i*P.cellsOf e)) (P.cellsOf e)=some csi∧RVs W csi ps)∧oB P n e ps∧∀ q,elems[i]?=some q→PV.bulkRow ps≤Rows.uptoBulk q.1:=by
     intro i hi
     have hg:=hget i hi
     rw [aM (by omega),oI] at hg
     obtain ⟨csi,h1,h2⟩:=hg
     obtain ⟨ps,h3,h4,h5⟩:=ih e csi _ hp.1 h2 (fun y hy=>hwt2 y (iZ _ (gV.2 (.inl (aIt (List.mem_map_of_mem (bN _)) hy)))))
     exact ⟨ps,⟨csi,h1,h3⟩,h4,fun q hq=>by rw [aM (by omega)] at hq;cases hq;exact h5⟩
    obtain ⟨xs,hxl,hx⟩:=aIg len key
    have hsh:∀ x∈xs,oB P n e x:=fun x hxm=>by
     obtain ⟨i,hi⟩:=kG hxm
     exact (hx i x hi).2.1
    have hsz:∀ (i:Nat) x,xs[i]?=some x→x.length=P.cellsOf e∧∀ j,j<P.cellsOf e→∃ u p,W.cell? ((a.add (i*P.cellsOf e)).add j)=some u∧x[j]?=some p∧RV (old W) W u p:=by
     intro i x hi
     obtain ⟨⟨csi,h1,h2⟩,_⟩:=hx i x hi
     obtain ⟨hb,hlen,hcell⟩:=World.cells?_some h1
     refine ⟨h2.1.trans hlen,fun j hj=>?_⟩
     have hjc:j<csi.length:=by omega
     have hjx:j<x.length:=by rw [h2.1];exact hjc
     refine ⟨csi[j],x[j],?_,aM hjx,h2.2 j _ _ (aM hjc) (aM hjx)⟩
     have:=hcell j hj
     rw [aM hjc] at this
     exact this
    have hbulk:PV.bulkRow [.list (P.cellsOf e) xs]≤Rows.uptoBulk (DataW.slice (elems.map (·.1)) (rest.map (·.1))):=by
     have:=aM0 xs (elems.map (·.1)) (by simp;omega) (fun i x d h1 h2=>by
      rw [bY,bV] at h2
      obtain ⟨q,hq,rfl⟩:=h2
      exact (hx i x h1).2.2 q hq)
     simp only [PV.bulkRow,PV.bulk,Rows.uptoBulk]
     omega
    refine ⟨[.list (P.cellsOf e) xs],.one ?_,?_,hbulk⟩
    ·
     by_cases h0:len=0
     ·
      subst h0
      obtain rfl:xs=[]:=eM hxl
      exact .empty _ _ _
     ·
      have hspot:a.spot=none∧a.block<W.heap.size:=by
       have h00:xs[0]?=some xs[0]:=aM (by omega)
       obtain ⟨u,p,h1,_⟩:=(hsz 0 _ h00).2 0 hp.2
       have e0:(a.add (0*P.cellsOf e)).add 0=a:=by simp [Addr.add]
       rw [e0] at h1
       exact aQC h1
      obtain ⟨b,o,s⟩:=a
      obtain ⟨rfl,hbl⟩:=hspot
      rw [← hxl]
      refine .row b o cap (P.cellsOf e) xs (fun j=>(W.cell? ⟨b,o+j,none⟩).getD undef) (fun x hxm=>?_) (by omega) (fun j hj=>⟨hbl,?_⟩) (fun i j x p hi hj=>?_)
      ·
       obtain ⟨i,hi⟩:=kG hxm
       exact (hsz i x hi).1
      ·
       have hi:j / P.cellsOf e<xs.length:=by rw [pR hp.2];exact hj
       obtain ⟨u,p,h1,_⟩:=(hsz _ _ (aM hi)).2 (j % P.cellsOf e) (Nat.mod_lt _ hp.2)
       have e2:j / P.cellsOf e*P.cellsOf e+j % P.cellsOf e=j:=by rw [oV];exact Nat.div_add_mod _ _
       rw [aE3,aE3,kM,e2] at h1
       simp [h1]
      ·
       have hjl:j<P.cellsOf e:=by rw [← (hsz i x hi).1];exact (bR.1 hj).1
       obtain ⟨u,p',h1,h2,h3⟩:=(hsz i x hi).2 j hjl
       rw [hj] at h2
       cases h2
       rw [aE3,aE3,kM] at h1
       simpa [h1] using h3
    ·
     simp only [oB,hu]
     exact ⟨xs,rfl,hsh,by rw [hxl];unfold maxLen at hcm;omega,by rw [hxl];exact hG (gZ _ (by omega)) hbytes⟩
  ·
   rename_i fs hu
   simp only [aR,cI,jG,nK] at hp
   obtain ⟨xs,m,hm,rfl,hlen,hxl,hget⟩:=DataW.trod_struct hu h
   obtain rfl:n=m:=by omega
   obtain ⟨ps,h1,h2,h3⟩:=aLB (S:=oB P n) fs.toList (xs.map (·.1)) 0 (hp.2.trans (by rw [hlen])) (by simp [hxl]) (fun i f d hi hd=>by
    have hf:f∈fs.toList:=dA hi
    have hi':fs[i]?=some f:=by simpa using hi
    have hil:i<xs.length:=by rw [hxl];exact (kF.1 hi').1
    have hg:=hget i f hi'
    rw [aM hil] at hg
    rw [bY,aM hil] at hd
    cases hd
    refine ih f.type _ _ (hp.1 f hf) hg (fun y hy=>hwt y ?_)
    have:DataW.weights P t (DataW.agg (xs.map (·.1)))=DataW.weightsEach P (fs.toList.map (·.type)) (xs.map (·.1)):=by simp [DataW.weights,hu]
    simp only [this]
    exact aDZ (i:=i) (by rw [bY,hi];rfl) (by rw [bY,aM hil];rfl) hy)
   exact ⟨ps,by simpa using h1,by simpa [oB,hu] using h2,by simp only [Rows.uptoBulk];omega⟩
  ·
   cases hp
theorem aQS {H:Type}{enc:TypeId × Value→H}{P:Program}{W:World}{base:Nat}{spare:Nat→Bool}{held:Bool}{L:List TypeId} (hL:aL7 P L=true) {t:TypeId} (ht:t∈L) {v:Value}{d:DataW H}{mp:List MemPlace}
  (hk:jZ P t=6) (hv:Value.okWide P W .any base t v) (h:DataW.Trod enc P W 0 spare held t v d mp) (hwt:∀ y∈d.weights P t,y≤140737488351232):∃ ps n,nA (aVn W) W v (.agg (ps.map AV.c))∧oB P n t ps∧PV.bulkRow ps≤Rows.uptoBulk d:=by
 obtain ⟨fuel,hf⟩:=h
 obtain ⟨ps,h1,h2,h3⟩:=aSI hL fuel t _ _ ht hf hwt
 have hagg:∃ cs:Array Value,v=.agg cs:=by
  unfold jZ at hk
  cases hu:P.underlying t with
  | none=>simp [hu] at hk
  | some d =>
   cases d <;> simp [hu] at hk
   simp only [Value.okWide,hu] at hv
   obtain ⟨cs,rfl,_⟩:=hv
   exact ⟨cs,rfl⟩
 obtain ⟨cs,rfl⟩:=hagg
 simp only [Value.cells] at h1
 refine ⟨ps,fuel,.agg cs _ (by have:=h1.1;simp at this;simp [this]) (fun i v a hv' ha=>?_),h2,h3⟩
 rw [bY,bV] at ha
 obtain ⟨p,hp,rfl⟩:=ha
 exact .c (h1.2 i v p (by simpa using hv') hp)

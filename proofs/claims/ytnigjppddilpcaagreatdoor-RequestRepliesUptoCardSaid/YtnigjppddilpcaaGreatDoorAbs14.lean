/- A call, as its caller sees it. A store into a row's element; a row that is stored into no more. Regions: operations in a row, and operations whose order is drawn. Regions that draw their order: quiet operations first, in whatever order; what waits for all of them behind. Regions that draw their order: soundness. Regions that draw their order: any order serves; the code's judgement; calls. -/
import Derived.Test.YtnigjppddilpcaaGreatDoorAbs9
import Derived.Deep.Quiet
namespace Go.Proofs.YtnigjppddilpcaaGreatDoor.Abs
open Go
set_option linter.unusedVariables false
set_option linter.unusedSimpArgs false
theorem St.upd_length:∀ (ids:List Nat) (σ r:St),(St.upd σ ids r).length=σ.length
 | [],σ,r=>by cases r <;> rfl
 | i :: is,σ,[]=>rfl
 | i :: is,σ,cs :: r=>by simp only [St.upd];rw [St.upd_length is];simp
theorem St.upd_not:∀ (ids:List Nat) (σ r:St) (k:Nat),k ∉ ids→(St.upd σ ids r)[k]?=σ[k]?
 | [],σ,r,k,_=>by cases r <;> rfl
 | i :: is,σ,[],k,_=>rfl
 | i :: is,σ,cs :: r,k,h=>by
  simp only [eT,not_or] at h
  simp only [St.upd]
  rw [St.upd_not is _ r k h.2,List.getElem?_set_ne (fun e=>h.1 e.symm)]
theorem St.upd_mem:∀ (ids:List Nat) (σ r:St) (k i:Nat) (cs:List AV),ids.Nodup→ids[k]?=some i→r[k]?=some cs→i<σ.length→(St.upd σ ids r)[i]?=some cs
 | [],σ,r,k,i,cs,_,h,_,_=>by simp at h
 | j :: is,σ,[],k,i,cs,_,_,h,_=>by simp at h
 | j :: is,σ,c0 :: r,k,i,cs,hnd,hi,hr,hlt=>by
  simp only [St.upd]
  rw [List.nodup_cons] at hnd
  cases k with
  | zero =>
   simp at hi hr
   subst hi
   subst hr
   rw [St.upd_not is _ r j hnd.1]
   simp [hlt]
  | succ k =>
   simp at hi hr
   exact St.upd_mem is _ r k i cs hnd.2 hi hr (by simpa using hlt)
inductive leS:St→St→Prop
 | nil:leS [] []
 | cons {a b:List AV}{as bs:St} (h:AV.leL a b) (t:leS as bs):leS (a :: as) (b :: bs)
theorem aI1 {s t:St} (h:leS s t):s.length=t.length∧∀ (i:Nat) cs,t[i]?=some cs→∃ bs,s[i]?=some bs∧AV.leL bs cs:=by
 induction h with
 | nil=>exact ⟨rfl,by simp⟩
 | cons h t ih =>
  refine ⟨by simp [ih.1],fun i b hb=>?_⟩
  cases i with
  | zero=>simp at hb;subst hb;exact ⟨_,rfl,h⟩
  | succ i=>simp at hb;simpa using ih.2 i b hb
def St.sub (σ:St) (ids:List Nat) (lt:List Nat:=[]):St:=ids.map fun i=>AV.lowTL lt ids (σ.getD i [])
def St.after (σ:St) (ids:List Nat) (d:Nat) (σr:St) (lt:List Nat:=[]):St :=
 St.upd (σ.dem (aFg lt d)) ids (σr.map (AV.liftL ids σ.length d))++(σr.drop ids.length).map (AV.liftL ids σ.length d)
theorem tV {l:List Nat} (h:l.Nodup) {i j b:Nat} (hi:l[i]?=some b) (hj:l[j]?=some b):i=j:=by
 have h1:=bR.1 hi
 have h2:=bR.1 hj
 exact (List.getElem_inj h).1 (h1.2.trans h2.2.symm)
theorem aOK {P:Program}{c:Ctx}{g:G}{w:World}{σ:St} (hi:tT c g w σ) {f:FuncId}{vs:Array Value}{args as:List AV}{ids lt:List Nat}{σc σr:St}{r:AV} (d:Nat)
  (hnd:ids.Nodup) (hltn:lt.Nodup) (hlt:∀ i∈ids,i<σ.length) (hargs:gB g w vs args) (hle:AV.leL (AV.lowTL lt ids args) as) (hst:leS (σ.sub ids lt) σc) (hc:cR P f as σc r σr) :
  Calls P f vs w fun e w'=>∃ v g'',e=.returned v∧tT c g'' w' (σ.after ids d σr lt)∧Stp (g.dem (aFg lt d)) w g'' w'∧nA g'' w' v (r.lift ids σ.length d):=by
 have hβlen:=hi.βlen
 let βc:List Nat:=ids.map fun i=>g.β.getD i 0
 have hβc:∀ (k i:Nat),ids[k]?=some i→∃ b,g.β[i]?=some b∧βc[k]?=some b:=by
  intro k i hk
  have hil:i<g.β.length:=by rw [hβlen];exact hlt i (dA hk)
  refine ⟨g.β[i],aM hil,?_⟩
  simp [βc,hk,bZ,aM hil]
 have hβc':∀ (k b:Nat),βc[k]?=some b→∃ i,ids[k]?=some i∧g.β[i]?=some b:=by
  intro k b hb
  simp only [βc,bY,bV] at hb
  obtain ⟨i,hik,rfl⟩:=hb
  have hil:i<g.β.length:=by rw [hβlen];exact hlt i (dA hik)
  exact ⟨i,hik,by simp [bZ,aM hil]⟩
 have hβcm:∀ b∈βc,b∈g.β:=by
  intro b hb
  obtain ⟨k,hk⟩:=kG hb
  obtain ⟨i,_,h⟩:=hβc' k b hk
  exact dA h
 have hβcl:βc.length=ids.length:=by simp [βc]
 have hlow:∀ (k id b:Nat),ids[k]?=some id→g.β[id]?=some b→βc[k]?=some b:=by
  intro k id b hk hb
  obtain ⟨b',h1,h2⟩:=hβc k id hk
  rw [h1] at hb
  cases hb
  exact h2
 obtain ⟨_,hcall⟩:=hc
 have hsl:=aI1 hst
 have hlent:∀ t b,aGG lt g t=some b→∃ s,(1600000≤t∧lt[t - 1600000]?=some s)∧g.τ s=some b:=by
  intro t b h
  unfold aGG at h
  split at h
  ·
   rename_i ht
   cases htt:lt[t - 1600000]? with
   | none=>simp [htt] at h
   | some s=>simp only [htt,aA] at h;exact ⟨s,⟨ht,rfl⟩,h⟩
  ·
   cases h
 have:=hcall w g.I βc (aGG lt g) vs hi.Ilt (by
   refine List.pairwise_iff_getElem.2 (fun i j hil hjl hij e=>?_)
   obtain ⟨x,hx1,hx2⟩:=hβc' i _ (aM hil)
   obtain ⟨y,hy1,hy2⟩:=hβc' j _ (aM hjl)
   rw [← e] at hy2
   have hxy:=tV hi.βnd hx2 hy2
   subst hxy
   have:=tV hnd hx1 hy1
   omega)
  (fun b hb=>hi.βlt b (hβcm b hb)) (fun b hb=>hi.βI b (hβcm b hb))
  (fun t b h=>by
   obtain ⟨s,_,hs⟩:=hlent t b h
   obtain ⟨_,h2,h3⟩:=hi.τnew s b hs
   exact ⟨h2,fun hb=>h3 (hβcm b hb)⟩)
  (fun t t' b h h'=>by
   obtain ⟨s,h1,h2⟩:=hlent t b h
   obtain ⟨s',h1',h2'⟩:=hlent t' b h'
   have:=hi.τinj s s' b h2 h2'
   subst this
   have:=tV hltn h1.2 h1'.2
   omega)
  (by rw [hβcl,← hsl.1];simp [St.sub])
  (fun id cs b hs hb=>by
   obtain ⟨bs,hbs,hleb⟩:=hsl.2 id cs hs
   obtain ⟨i,hi1,hi2⟩:=hβc' id b hb
   simp only [St.sub,bY,hi1,eO,dB] at hbs
   have hil:i<σ.length:=hlt i (dA hi1)
   obtain ⟨cur,e,hh,hr⟩:=hi.store i σ[i] b (aM hil) hi2
   rw [bZ,aM hil,eR] at hbs
   subst hbs
   exact ⟨cur,e,hh,gB.le hleb (hr.lowT lt ids βc hlow)⟩)
  (gB.le hle (hargs.lowT lt ids βc hlow)) hi.now
 refine this.mono fun e w'=>?_
 rintro ⟨v,g',he,hi',hv⟩
 have hheap:∀ b,b<w.heap.size→b ∉ βc→(¬∃ t,aGG lt g t=some b)→w'.heap[b]?=w.heap[b]?:=hi'.old
 have hsz:w.heap.size≤w'.heap.size:=hi'.size
 have hpre:∀ (k:Nat),k<ids.length→g'.β[k]?=βc[k]?:=by
  intro k hk
  have:=hi'.βpre
  simp only [hβcl] at this
  rw [← this,eX hk]
 let g'':G:={ I:=g'.I,β:=g.β++g'.β.drop ids.length,τ:=fun t=>if t / 16==d then g'.τ (t % 16) else if lt.contains t then none else g.τ t }
 have hτnot:∀ t b,g.τ t=some b→b ∉ βc:=fun t b ht hb=>(hi.τnew t b ht).2.2 (hβcm b hb)
 have hInot:∀ b o,g.I b o→b ∉ βc:=fun b o h hb=>hi.βI b (hβcm b hb) o h
 have hrest:∀ t b,aFg lt d t=false→g.τ t=some b→¬∃ t,aGG lt g t=some b:=by
  rintro t b hf ht ⟨j,hj⟩
  obtain ⟨s,h1,h2⟩:=hlent j b hj
  have:=hi.τinj t s b ht h2
  subst this
  unfold aFg at hf
  simp only [Bool.or_eq_false_iff] at hf
  have:lt.contains t=true:=by simpa using dA h1.2
  rw [this] at hf
  cases hf.1
 have hlβ:∀ b,(∃ t,aGG lt g t=some b)→b ∉ g.β∧(c.w0.heap.size≤b∨c.O0 b):=by
  rintro b ⟨j,hj⟩
  obtain ⟨s,_,h2⟩:=hlent j b hj
  exact ⟨(hi.τnew s b h2).2.2,(hi.τnew s b h2).1⟩
 have st:Stp (g.dem (aFg lt d)) w g'' w':=by
  refine ⟨fun b o h=>hi'.Ile b o h,fun b o h=>hi'.cell0 b o h,fun id b h=>?_,fun t b htb=>?_⟩
  ·
   have h':g.β[id]?=some b:=h
   show (g.β++g'.β.drop ids.length)[id]?=some b
   rw [cQ (bR.1 h').1]
   exact h'
  ·
   simp only [G.dem] at htb
   split at htb
   ·
    cases htb
   ·
    rename_i hft
    have hft:aFg lt d t=false:=by simpa using hft
    have hbl:=(hi.τnew t b htb).2.1
    have hno:=hrest t b hft htb
    refine ⟨?_,hheap b hbl (hτnot t b htb) hno,fun o h=>hi'.Iold b o h hbl hno⟩
    show (if (t / 16==d)=true then g'.τ (t % 16) else if lt.contains t then none else g.τ t)=some b
    unfold aFg at hft
    simp only [Bool.or_eq_false_iff] at hft
    rw [aY (by rw [hft.2];simp),aY (by rw [hft.1];simp)]
    exact htb
 have hnewge:∀ b∈g'.β.drop ids.length,w.heap.size≤b:=by
  have:=hi'.βnew
  simpa [hβcl] using this
 have hβ1:∀ (k i b:Nat),ids[k]?=some i→g'.β[k]?=some b→g''.β[i]?=some b:=by
  intro k i b hk hb
  have hkl:=(bR.1 hk).1
  rw [hpre k hkl] at hb
  obtain ⟨j,hj1,hj2⟩:=hβc' k b hb
  rw [hk] at hj1
  cases hj1
  show (g.β++g'.β.drop ids.length)[i]?=some b
  rw [cQ (bR.1 hj2).1]
  exact hj2
 have hβ2:∀ (k b:Nat),ids[k]?=none→g'.β[k]?=some b→g''.β[σ.length+(k - ids.length)]?=some b:=by
  intro k b hk hb
  have hkl:ids.length≤k:=by simpa using hk
  show (g.β++g'.β.drop ids.length)[σ.length+(k - ids.length)]?=some b
  rw [dL (by omega),hO,hβlen]
  rw [show ids.length+(σ.length+(k - ids.length) - σ.length)=k by omega]
  exact hb
 have hτ:∀ (t b:Nat),t<16→g'.τ t=some b→g''.τ (16*d+t)=some b:=by
  intro t b ht hb
  show (if ((16*d+t) / 16==d)=true then g'.τ ((16*d+t) % 16) else if lt.contains (16*d+t) then none else g.τ _)=some b
  rw [show (16*d+t) / 16=d by omega,show (16*d+t) % 16=t by omega]
  simpa using hb
 have hlift:∀ {v:Value}{a:AV},nA g' w' v a→nA g'' w' v (a.lift ids σ.length d):=fun h=>nA.lift (g1:=g') (g2:=g'') ids σ.length d rfl hβ1 hβ2 hτ h
 have hliftC:∀ {vs:Array Value}{cs:List AV},gB g' w' vs cs→gB g'' w' vs (AV.liftL ids σ.length d cs):=by
  intro vs cs h
  rw [AV.liftL_eq]
  refine ⟨by simpa using h.1,fun i v a hv ha=>?_⟩
  simp only [bY,bV] at ha
  obtain ⟨a,ha,rfl⟩:=ha
  exact hlift (h.2 i v a hv ha)
 have hσrl:g'.β.length=σr.length:=hi'.βlen
 have hidl:ids.length≤g'.β.length:=by
  have:=qB List.length hi'.βpre
  simp [hβcl] at this
  omega
 have hupl:(St.upd (σ.dem (aFg lt d)) ids (σr.map (AV.liftL ids σ.length d))).length=σ.length:=by rw [St.upd_length,St.dem_eq,gG]
 have hold:∀ b,b<c.w0.heap.size→¬c.O0 b→¬∃ t,aGG lt g t=some b:=fun b hb ho hx=>by
  rcases (hlβ b hx).2 with h | h
  ·
   omega
  ·
   exact ho h
 refine ⟨v,g'',he,⟨hi'.os.trans hi.os,hi'.tape.trans hi.tape,hi'.output.trans hi.output,hG hi.size hsz,fun b hb hn ho=>?_,fun b o h=>hi'.Ile b o (hi.Ile b o h),fun b o h hb ho=>hi.Iold b o (hi'.Iold b o h (fG hb hi.size) (hold b hb ho)) hb ho,hi'.Ilt,?_,?_,?_,?_,fun b hb o h=>?_,fun b hb=>?_,fun t b htb=>?_,fun t t' b h1 h2=>?_,fun id cs b hs hb=>?_,fun b o h=>(st.cell b o (hi.Ile b o h)).trans (hi.cell0 b o h),hi.glo⟩,st,hlift hv⟩
 ·
  have hbw:b<w.heap.size:=fG hb hi.size
  have hbc:b ∉ βc:=by
   intro hbc
   have hmem:=hβcm b hbc
   rw [← pQ c.β0.length g.β] at hmem
   rcases gV.1 hmem with h | h
   ·
    rw [hi.βpre] at h
    exact hn h
   ·
    have:=hi.βnew b h
    omega
  rw [hheap b hbw hbc (hold b hb ho)]
  exact hi.old b hb hn ho
 ·
  have hlen:c.β0.length≤g.β.length:=by
   have:=qB List.length hi.βpre
   simp at this
   omega
  show (g.β++g'.β.drop ids.length).take c.β0.length=c.β0
  rw [mA hlen]
  exact hi.βpre
 ·
  intro b hb
  have hlen:c.β0.length≤g.β.length:=by
   have:=qB List.length hi.βpre
   simp at this
   omega
  change b∈(g.β++g'.β.drop ids.length).drop c.β0.length at hb
  rw [kO hlen] at hb
  rcases gV.1 hb with h | h
  ·
   exact hi.βnew b h
  ·
   have:=hnewge b h
   have:=hi.size
   omega
 ·
  show (g.β++g'.β.drop ids.length).Nodup
  refine List.nodup_append.2 ⟨hi.βnd,(List.drop_sublist _ _).nodup hi'.βnd,fun x hx y hy=>?_⟩
  have:=hi.βlt x hx
  have:=hnewge y hy
  omega
 ·
  show (g.β++g'.β.drop ids.length).length=_
  simp only [St.after,aF,hupl,gG,lX]
  omega
 ·
  rcases gV.1 (show b∈g.β++g'.β.drop ids.length from hb) with hb | hb
  ·
   exact hi.βI b hb o (hi'.Iold b o h (hi.βlt b hb) (fun hx=>(hlβ b hx).1 hb))
  ·
   exact hi'.βI b (mF hb) o h
 ·
  rcases gV.1 (show b∈g.β++g'.β.drop ids.length from hb) with hb | hb
  ·
   exact fG (hi.βlt b hb) hsz
  ·
   exact hi'.βlt b (mF hb)
 ·
  change (if (t / 16==d)=true then g'.τ (t % 16) else if lt.contains t then none else g.τ t)=some b at htb
  have hnot:∀ b,b∈g.β++g'.β.drop ids.length→b∈g.β∨b∈g'.β.drop ids.length:=fun b=>gV.1
  split at htb
  ·
   obtain ⟨h1,h2,h3⟩:=hi'.τnew _ b htb
   rcases h1 with h1 | h1
   ·
    have h1:w.heap.size≤b:=h1
    refine ⟨.inl (hG hi.size h1),h2,fun hb=>?_⟩
    rcases hnot b hb with hb | hb
    ·
     have:=hi.βlt b hb
     omega
    ·
     exact h3 (mF hb)
   ·
    have h1:∃ t,aGG lt g t=some b:=h1
    refine ⟨(hlβ b h1).2,h2,fun hb=>?_⟩
    rcases hnot b hb with hb | hb
    ·
     exact (hlβ b h1).1 hb
    ·
     exact h3 (mF hb)
  ·
   split at htb
   ·
    cases htb
   ·
    obtain ⟨h1,h2,h3⟩:=hi.τnew t b htb
    refine ⟨h1,fG h2 hsz,fun hb=>?_⟩
    rcases hnot b hb with hb | hb
    ·
     exact h3 hb
    ·
     have:=hnewge b hb
     omega
 ·
  change (if (t / 16==d)=true then g'.τ (t % 16) else if lt.contains t then none else g.τ t)=some b at h1
  change (if (t' / 16==d)=true then g'.τ (t' % 16) else if lt.contains t' then none else g.τ t')=some b at h2
  have cross:∀ s s',(s' / 16==d)≠true→lt.contains s'≠true→g'.τ (s % 16)=some b→g.τ s'=some b→False:=by
   intro s s' hs' hc' h1 h2
   have hf:aFg lt d s'=false:=by unfold aFg;simp only [Bool.or_eq_false_iff];exact ⟨by simpa using hc',by simpa using hs'⟩
   rcases (hi'.τnew _ b h1).1 with a1 | a1
   ·
    have a1:w.heap.size≤b:=a1
    have:=(hi.τnew _ b h2).2.1
    omega
   ·
    exact hrest s' b hf h2 a1
  split at h1
  ·
   rename_i e1
   split at h2
   ·
    rename_i e2
    have:=hi'.τinj _ _ b h1 h2
    simp at e1 e2
    omega
   ·
    rename_i e2
    split at h2
    ·
     cases h2
    ·
     rename_i e3
     exact (cross t t' e2 e3 h1 h2).elim
  ·
   rename_i e1
   split at h1
   ·
    cases h1
   ·
    rename_i e4
    split at h2
    ·
     exact (cross t' t e1 e4 h2 h1).elim
    ·
     split at h2
     ·
      cases h2
     ·
      exact hi.τinj t t' b h1 h2
 ·
  change (g.β++g'.β.drop ids.length)[id]?=some b at hb
  by_cases hid:id<σ.length
  ·
   rw [cQ (by rw [hβlen];exact hid)] at hb
   rw [St.after,cQ (by rw [hupl];exact hid)] at hs
   by_cases hmem:id∈ids
   ·
    obtain ⟨k,hk⟩:=kG hmem
    have hkl:=(bR.1 hk).1
    have hkr:k<σr.length:=by omega
    rw [St.upd_mem ids _ _ k id (AV.liftL ids σ.length d σr[k]) hnd hk (by simp [aM hkr]) (by rw [St.dem_eq,gG];exact hid)] at hs
    cases hs
    have hbk:g'.β[k]?=some b:=by
     rw [hpre k hkl]
     exact hlow k id b hk hb
    obtain ⟨cur,e,hh,hr⟩:=hi'.store k σr[k] b (aM hkr) hbk
    exact ⟨cur,e,hh,hliftC hr⟩
   ·
    rw [St.upd_not ids _ _ id hmem] at hs
    obtain ⟨cur,e,hh,hr⟩:=(hi.dem (aFg lt d)).store id cs b hs hb
    have hbc:b ∉ βc:=by
     intro hbc
     obtain ⟨k,hk⟩:=kG hbc
     obtain ⟨i,hi1,hi2⟩:=hβc' k b hk
     have:=tV hi.βnd hb hi2
     subst this
     exact hmem (dA hi1)
    exact ⟨cur,e,(hheap b (hi.βlt b (dA hb)) hbc (fun hx=>(hlβ b hx).1 (dA hb))).trans hh,hr.stp st⟩
  ·
   rw [dL (by omega),hO,hβlen] at hb
   rw [St.after,dL (by rw [hupl];omega),hupl,bY,hO,bV] at hs
   obtain ⟨cs0,hs,rfl⟩:=hs
   obtain ⟨cur,e,hh,hr⟩:=hi'.store _ cs0 b hs hb
   exact ⟨cur,e,hh,hliftC hr⟩
structure Put (g:G) (w:World) (t sz i b:Nat) (e:TypeId) (cur cur':Array Value) (off n:Nat) (row:List PV):Prop where
 τ:g.τ t=some b
 I:∀ o,¬g.I b o
 heap:w.heap[b]?=some (.cells cur e (0,0))
 size:cur'.size=cur.size
 fit:off+n≤sz
 room:i*sz+sz≤cur.size
 len:row.length=sz
 same:∀ k,(k<i*sz+off∨i*sz+off+n≤k)→cur'[k]?=cur[k]?
 row:∀ (j:Nat) (p:PV),row[j]?=some p→∃ u,cur'[i*sz+j]?=some u∧RV g.I w u p
theorem Put.cell {g:G}{w:World}{t sz i b:Nat}{e:TypeId}{cur cur':Array Value}{off n:Nat}{row:List PV} (p:Put g w t sz i b e cur cur' off n row):∀ k o,g.I k o→(w.setRow b cur').cell? ⟨k,o,none⟩=w.cell? ⟨k,o,none⟩:=fun k o h=>by
 have hk:k≠b:=fun e=>p.I o (e ▸ h)
 simp [World.cell?,setRow_other w b k _ hk]
mutual
def AV.frz (t sz:Nat) (xs:List (List PV)):AV→AV
 | .mrow t' sz' xs'=>if t'==t then .own t sz xs else .mrow t' sz' xs'
 | .mptr t' sz' i off row=>if t'==t then .any else .mptr t' sz' i off row
 | .own t' sz' xs'=>if t'==t then .c (.list sz' xs') else .own t' sz' xs'
 | .agg cs=>.agg (AV.frzL t sz xs cs)
 | .tup cs=>.tup (AV.frzL t sz xs cs)
 | .fn f cs=>.fn f (AV.frzL t sz xs cs)
 | a=>a
def AV.frzL (t sz:Nat) (xs:List (List PV)):List AV→List AV
 | []=>[]
 | a :: as=>AV.frz t sz xs a :: AV.frzL t sz xs as
def AV.fro (t:Nat):AV→AV
 | .mrow t' sz' xs'=>if t'==t then .own t sz' xs' else .mrow t' sz' xs'
 | .mptr t' sz' i off row=>if t'==t then .any else .mptr t' sz' i off row
 | .own t' sz' xs'=>if t'==t then .c (.list sz' xs') else .own t' sz' xs'
 | .agg cs=>.agg (AV.froL t cs)
 | .tup cs=>.tup (AV.froL t cs)
 | .fn f cs=>.fn f (AV.froL t cs)
 | a=>a
def AV.froL (t:Nat):List AV→List AV
 | []=>[]
 | a :: as=>AV.fro t a :: AV.froL t as
end
theorem AV.frzL_eq (t sz:Nat) (xs:List (List PV)) (l:List AV):AV.frzL t sz xs l=l.map (AV.frz t sz xs):=by
 induction l with
 | nil=>rfl
 | cons a l ih=>simp [AV.frzL,ih]
theorem AV.froL_eq (t:Nat) (l:List AV):AV.froL t l=l.map (AV.fro t):=by
 induction l with
 | nil=>rfl
 | cons a l ih=>simp [AV.froL,ih]
def Fr.frz (t sz:Nat) (xs:List (List PV)):Fr→Fr
 | []=>[]
 | (d,a) :: r=>(d,a.frz t sz xs) :: Fr.frz t sz xs r
def Fr.fro (t:Nat):Fr→Fr
 | []=>[]
 | (d,a) :: r=>(d,a.fro t) :: Fr.fro t r
def St.frz (t sz:Nat) (xs:List (List PV)):St→St
 | []=>[]
 | cs :: r=>AV.frzL t sz xs cs :: St.frz t sz xs r
def St.fro (t:Nat):St→St
 | []=>[]
 | cs :: r=>AV.froL t cs :: St.fro t r
theorem aFO {α β:Type}{f h:α→β}{l:List α} (e:l.map f=l.map h) {i:Nat}{a:α} (ha:l[i]?=some a):f a=h a:=by
 have:(l.map f)[i]?=(l.map h)[i]?:=by rw [e]
 simpa [ha] using this
def G.frz (g:G) (t N:Nat):G:={ g with I:=fun b o=>g.I b o∨(g.τ t=some b∧o<N) }
theorem nA.frz {g:G}{w:World} (t sz:Nat) (xs:List (List PV)) (hinj:∀ t t' b,g.τ t=some b→g.τ t'=some b→t=t') {v:Value}{a:AV} (h:nA g w v a) :
  a.frz t sz xs=a.fro t→nA (g.frz t (xs.length*sz)) w v (a.frz t sz xs):=by
 have hRV:∀ {u q},RV g.I w u q→RV (g.frz t (xs.length*sz)).I w u q:=fun h=>h.mono (fun _ _ h=>.inl h) (fun _ _ _=>rfl)
 have hne:∀ {t' b'},(t'==t)=false→g.τ t'=some b'→∀ o,(g.frz t (xs.length*sz)).I b' o→g.I b' o:=by
  rintro t' b' ht h1 o (h2 | ⟨h2,_⟩)
  ·
   exact h2
  ·
   have:=hinj t' t b' h1 h2
   subst this
   simp at ht
 induction h with
 | c h=>exact fun _=>.c (hRV h)
 | nil=>exact fun _=>.nil
 | own t' sz' xs' h =>
  intro he
  simp only [AV.frz]
  split
  ·
   exact .c (hRV h.rv)
  ·
   rename_i ht
   obtain ⟨h0,hs,e',cells,ho,hv,hb⟩:=h
   refine .own t' sz' xs' ⟨h0,hs,e',cells,ho,fun k j x q hx hq=>?_,fun b hb'=>⟨(hb b hb').1,fun o=>⟨fun h=>((hb b hb').2 o).1 (hne (by simpa using ht) (hb b hb').1 o h),fun h=>.inl (((hb b hb').2 o).2 h)⟩⟩⟩
   obtain ⟨u,hu,hr⟩:=hv k j x q hx hq
   exact ⟨u,hu,hRV hr⟩
 | mrow t' sz' xs' h =>
  intro he
  obtain ⟨h0,hs,e',cells,ho,hv,hb⟩:=h
  simp only [AV.frz,AV.fro] at he ⊢
  split
  ·
   rename_i ht
   rw [bB ht,bB ht] at he
   simp only [AV.own.injEq,true_and] at he
   obtain ⟨rfl,rfl⟩:=he
   have ht:t'=t:=by simpa using ht
   subst ht
   refine .own t' sz xs ⟨h0,hs,e',cells,ho,fun k j x q hx hq=>?_,fun b hb'=>⟨(hb b hb').1,fun o=>⟨?_,fun h=>.inr ⟨(hb b hb').1,h⟩⟩⟩⟩
   ·
    obtain ⟨u,hu,hr⟩:=hv k j x q hx hq
    exact ⟨u,hu,hRV hr⟩
   ·
    rintro (h | ⟨_,h⟩)
    ·
     exact absurd h ((hb b hb').2 o)
    ·
     exact h
  ·
   rename_i ht
   refine .mrow t' sz' xs' ⟨h0,hs,e',cells,ho,fun k j x q hx hq=>?_,fun b hb'=>⟨(hb b hb').1,fun o h=>(hb b hb').2 o (hne (by simpa using ht) (hb b hb').1 o h)⟩⟩
   obtain ⟨u,hu,hr⟩:=hv k j x q hx hq
   exact ⟨u,hu,hRV hr⟩
 | mptr t' sz' j off' r h =>
  intro he
  simp only [AV.frz]
  split
  ·
   exact .any
  ·
   rename_i ht
   obtain ⟨b',cur0,e',hv,hτ,hI,hl,hc,hh,hr⟩:=h
   refine .mptr _ _ _ _ _ ⟨b',cur0,e',hv,hτ,fun o h=>hI o (hne (by simpa using ht) hτ o h),hl,hc,hh,fun k q hq=>?_⟩
   obtain ⟨u,hu,hr⟩:=hr k q hq
   exact ⟨u,hu,hRV hr⟩
 | agg vs cs h _ ih =>
  intro he
  simp only [AV.frz,AV.fro,AV.frzL_eq,AV.froL_eq,AV.agg.injEq] at he ⊢
  refine .agg vs _ (by simpa using h) (fun i v a hv ha=>?_)
  simp only [bY,bV] at ha
  obtain ⟨a,ha,rfl⟩:=ha
  exact ih i v a hv ha (aFO he ha)
 | tup vs cs h _ ih =>
  intro he
  simp only [AV.frz,AV.fro,AV.frzL_eq,AV.froL_eq,AV.tup.injEq] at he ⊢
  refine .tup vs _ (by simpa using h) (fun i v a hv ha=>?_)
  simp only [bY,bV] at ha
  obtain ⟨a,ha,rfl⟩:=ha
  exact ih i v a hv ha (aFO he ha)
 | fn k vs cs h _ ih =>
  intro he
  simp only [AV.frz,AV.fro,AV.frzL_eq,AV.froL_eq,AV.fn.injEq,true_and] at he ⊢
  refine .fn k vs _ (by simpa using h) (fun i v a hv ha=>?_)
  simp only [bY,bV] at ha
  obtain ⟨a,ha,rfl⟩:=ha
  exact ih i v a hv ha (aFO he ha)
 | box id off b h=>exact fun _=>.box id off b h
 | eptr b' o off cs vs hc hv=>exact fun _=>.eptr b' o off cs vs (fun j hj=>⟨.inl (hc j hj).1,(hc j hj).2⟩) (fun j q hq=>hRV (hv j q hq))
 | ptrs b' o cap l hcap hc =>
  intro _
  refine .ptrs b' o cap l hcap (fun k q hq=>?_)
  obtain ⟨h1,bk,h2,h3⟩:=hc k q hq
  exact ⟨.inl h1,bk,h2,h3⟩
 | view id off n b cap h hn=>exact fun _=>.view id off n b cap h hn
 | pptr b' o bk q hi hb hc=>exact fun _=>.pptr b' o bk q (.inl hi) hb hc
 | nilptr=>exact fun _=>.nilptr
 | any=>exact fun _=>.any
inductive aUr:Fr→St→Fr→St→Prop
 | refl (fr:Fr) (σ:St):aUr fr σ fr σ
 | step {fr:Fr}{σ:St}{fr':Fr}{σ':St} (t sz:Nat) (xs:List (List PV)) (h1:fr.frz t sz xs=fr.fro t) (h2:σ.frz t sz xs=σ.fro t) (h:aUr (fr.frz t sz xs) (σ.frz t sz xs) fr' σ'):aUr fr σ fr' σ'
def PV.flat:PV→Bool
 | .list _ _=>false
 | _=>true
theorem RV.flat {I I':Nat→Nat→Prop}{w w':World}{v:Value}{p:PV} (hp:p.flat=true) (h:RV I w v p):RV I' w' v p:=by
 cases h with
 | bool b=>exact .bool b
 | int k n=>exact .int k n
 | str s=>exact .str s
 | empty A cap sz=>cases hp
 | row b o cap sz xs vs hs hcap hc hv=>cases hp
def Fr.demo (fr:Fr):Option (Nat→Bool)→Fr
 | .none=>fr
 | some f=>fr.dem f
def aH6 (P:Program) (dst:Option Tmp) (fv:AV) (args:List AV) (fr:Fr) (σ:St) (K:Fr→St→Prop):Prop :=
 match fv with
 | .fn f caps=>∃ d ids lt as σc r σr,List.Nodup ids∧List.Nodup lt∧(∀ i∈ids,i<σ.length)∧AV.leL (AV.lowTL lt ids (args++caps)) as∧leS (σ.sub ids lt) σc∧cR P f as σc r σr ∧
  K ((fr.dem (aFg lt d)).put dst (r.lift ids σ.length d)) (σ.after ids d σr lt)
 | _=>False
def aOt (P:Program) (neg:Bool) (t:TypeId) (x y:AV) (K:AV→Prop):Prop :=
 match x,y with
 | .c (.list _ xs),.nil=>jZ P t=3∧∀ b:Bool,(b=true→xs=[])→K (.c (.bool (b != neg)))
 | .own _ _ xs,.nil=>jZ P t=3∧∀ b:Bool,(b=true→xs=[])→K (.c (.bool (b != neg)))
 | .nil,.nil=>jZ P t=3∧K (.c (.bool (true != neg)))
 | _,_=>False
def aCa (o:Oper):Option (Bool × TypeId × Operand × Operand) :=
 match o.op with
 | .binOp .eql t x (.const (.slice .none 0 0)) _=>some (false,t,x,.const (.slice .none 0 0))
 | .binOp .neq t x (.const (.slice .none 0 0)) _=>some (true,t,x,.const (.slice .none 0 0))
 | _=>.none
def aop (P:Program) (o:Oper) (fr:Fr) (σ:St) (K:Fr→St→Prop):Prop :=
 match o.op with
 | .call { callee:=.value f,args,argTypes }=>aH6 P o.dst (fr.ev f) (args.toList.map fr.ev) fr σ K
 | _=>(match aCa o with
  | some (neg,t,x,y)=>aOt P neg t (fr.ev x) (fr.ev y) fun v=>K (fr.put o.dst v) σ
  | _=>aEm P o fr.ev σ fun dm v σ'=>K ((fr.demo dm).put o.dst v) σ')
def aOw (P:Program) (o:Oper) (fr:Fr) (σ:St) (K:Fr→St→Prop):Prop :=
 aop P o fr σ K
theorem aS1 {P:Program}{o:Oper}{fr:Fr}{σ:St}{K:Fr→St→Prop} (h:aop P o fr σ K):aOw P o fr σ K:=h
def qW (ops:List Oper) (o:Oper) (get:Nat→AV) (yes no:Prop):Prop :=
 match o.guard with
 | .none=>yes
 | some (j,want)=>(match ops[j]? with
  | some p=>(match p.dst with
   | some d=>(match get d with
    | .c (.bool b)=>(b=want→yes)∧(b≠want→no)
    | .tup []=>no
    | _=>False)
   | _=>False)
  | _=>False)
def aS0 (mo:Bool) (P:Program) (o:Oper) (fr:Fr) (σ:St) (K:Fr→St→Prop):Prop:=match mo with | true=>aOw P o fr σ K | false=>aop P o fr σ K
theorem aLP {mo:Bool}{P:Program}{o:Oper}{fr:Fr}{σ:St}{K:Fr→St→Prop} (h:aop P o fr σ K):aS0 mo P o fr σ K:=by
 cases mo
 ·
  exact h
 ·
  exact aS1 h
def lS (mo:Bool) (P:Program) (ops:List Oper):List Oper→Fr→St→(Fr→St→Prop)→Prop
 | [],fr,σ,K=>K fr σ
 | o :: r,fr,σ,K=>qW ops o fr.get (aS0 mo P o fr σ fun fr' σ'=>lS mo P ops r fr' σ' K) (lS mo P ops r (fr.put o.dst (.tup [])) σ K)
def aDF (N:Nat) (o:Oper):Bool :=
 match o.dst with
 | some d=>decide (d<N)
 | _=>(match o.op with | .store ..=>true | .call { callee:=.value _,.. }=>true | _=>false)
def Sim (c:Ctx) (N:Nat) (a:Act) (w:World) (fr:Fr) (σ:St):Prop:=∃ g,tT c g w σ∧yV g w a.tmps fr∧a.tmps.size=N∧a.defers=[]
theorem Act.put_eq (a:Act) (h:a.defers=[]) (dst:Option Tmp) (v:Value):(a.put dst v).tmps=(Act.put ⟨a.tmps,[]⟩ dst v).tmps∧(a.put dst v).defers=[]∧(a.put dst v).tmps.size=a.tmps.size:=by
 cases dst <;> simp [Act.put,h]
theorem Sim.put {c:Ctx}{N:Nat}{a:Act}{w:World}{fr:Fr}{σ:St}{g:G} (hi:tT c g w σ) (hf:yV g w a.tmps fr) (hN:a.tmps.size=N) (hd:a.defers=[]) {dst:Option Tmp}{v:Value}{av:AV}
  (hdst:∀ d,dst=some d→d<N) (hv:nA g w v av):Sim c N (a.put dst v) w (fr.put dst av) σ:=by
 obtain ⟨h1,h2,h3⟩:=Act.put_eq a hd dst v
 refine ⟨g,hi,?_,h3.trans hN,h2⟩
 rw [h1]
 exact hf.put (fun d hd'=>by rw [hN];exact hdst d hd') hv
theorem aRe {tmps:Array Value}{d:Nat}{b:Bool} (h:tmps.getD d undef=.bool b):tmps[d]?=some (.bool b):=by
 rw [dY] at h
 cases hd:tmps[d]? with
 | none=>rw [hd] at h;simp [undef] at h
 | some v=>rw [hd] at h;simpa using h
theorem aBO {ops:Array Oper}{o:Oper}{g:G}{w:World}{tmps:Array Value}{get:Nat→AV}{yes no:Prop} (hf:∀ d,nA g w (tmps.getD d undef) (get d)) (h:qW ops.toList o get yes no) :
  (Region.wanted o (yielded ops tmps)=true∧yes)∨(Region.wanted o (yielded ops tmps)=false∧no):=by
 unfold qW at h
 split at h
 ·
  rename_i hg
  exact .inl ⟨by simp [Region.wanted,hg],h⟩
 ·
  rename_i j want hg
  split at h
  ·
   rename_i p hp
   split at h
   ·
    rename_i d hd
    split at h
    ·
     rename_i b hb
     have hv:=hf d
     rw [hb] at hv
     have hv:=hv.c_inv
     generalize hvd:tmps.getD d undef=v at hv
     cases hv
     have hy:yielded ops tmps j=some b:=by
      rw [dS] at hp
      simp [yielded,hp,hd,aRe hvd]
     by_cases hbw:b=want
     ·
      exact .inl ⟨by simp [Region.wanted,hg,hy,hbw],h.1 hbw⟩
     ·
      exact .inr ⟨by simp [Region.wanted,hg,hy,hbw],h.2 hbw⟩
    ·
     rename_i hb
     have hv:=hf d
     rw [hb] at hv
     generalize hvd:tmps.getD d undef=v at hv
     cases hv with
     | tup vs _ hsz _ =>
      have hy:yielded ops tmps j=none:=by
       rw [dS] at hp
       rw [dY] at hvd
       simp only [yielded,hp,aA,hd]
       cases hd2:tmps[d]? with
       | none=>simp [hd2]
       | some u=>rw [hd2] at hvd;simp at hvd;subst hvd;simp [hd2]
      exact .inr ⟨by simp [Region.wanted,hg,hy],h⟩
    ·
     exact h.elim
   ·
    exact h.elim
  ·
   exact h.elim
theorem aLo {P:Program}{w:World}{dst:Option Tmp}{ty:TypeId}{pos:String}{after:Array Edge}{guard:Option (Nat × Bool)}{f:Operand}{args:Array Operand}{argTypes:Array TypeId}{ev:Operand→Value}{k:FuncId}{vs:Array Value}
  (hf:ev f=.func (.func k) #[] vs) (hc:aDd P k=true):(execOp ev ⟨dst,.call { callee:=.value f,args,argTypes },ty,pos,after,guard⟩).run P w=.ok (.enter k (args.map ev++vs)) w:=by
 unfold aDd at hc
 split at hc
 ·
  rename_i fn hfn
  simp only [aR,bne_iff_ne,ne_eq] at hc
  obtain ⟨b,hb⟩:=jS.1 hc.2
  have hn:(fn.name=="runtime.NumGoroutine")=false:=by simpa using hc.1
  have e1:execOp ev ⟨dst,.call { callee:=.value f,args,argTypes },ty,pos,after,guard⟩=callFunc k (args.map ev++vs):=by
   simp only [execOp,resolve,hf,Deferred.ofValue,pure_bind,invoke,Array.empty_append]
  rw [e1]
  simp [callFunc,hfn,hc.1,hb]
 ·
  cases hc
theorem aBz {N:Nat}{o:Oper} (h:aDF N o=true):∀ d,o.dst=some d→d<N:=by
 intro d hd
 simp only [aDF,hd,bU] at h
 exact h
theorem aOD {g:G}{w:World}{a:Act}{fr:Fr} (hf:yV g w a.tmps fr) (args:Array Operand):gB g w (args.map a.eval) (args.toList.map fr.ev):=by
 refine ⟨by simp,fun i v av hv hav=>?_⟩
 rw [Array.getElem?_map,bV] at hv
 obtain ⟨x,hx,rfl⟩:=hv
 rw [bY,dS,hx] at hav
 simp at hav
 subst hav
 exact fK hf x
theorem gB.app {g:G}{w:World}{vs us:Array Value}{as bs:List AV} (h1:gB g w vs as) (h2:gB g w us bs):gB g w (vs++us) (as++bs):=by
 refine ⟨by simp [h1.1,h2.1],fun i v a hv ha=>?_⟩
 by_cases hi:i<as.length
 ·
  rw [cQ hi] at ha
  rw [Array.getElem?_append_left (by rw [h1.1];exact hi)] at hv
  exact h1.2 i v a hv ha
 ·
  rw [dL (by omega)] at ha
  rw [Array.getElem?_append_right (by rw [h1.1];omega),h1.1] at hv
  exact h2.2 _ v a hv ha
theorem aKF {o:Oper}{neg:Bool}{t:TypeId}{x y:Operand} (h:aCa o=some (neg,t,x,y)):y=.const (.slice .none 0 0)∧∃ t2,o.op=.binOp (if neg then .neq else .eql) t x y t2:=by
 unfold aCa at h
 split at h
 ·
  rename_i hop
  simp only [dB,mT] at h
  obtain ⟨rfl,rfl,rfl,rfl⟩:=h
  exact ⟨rfl,_,hop⟩
 ·
  rename_i hop
  simp only [dB,mT] at h
  obtain ⟨rfl,rfl,rfl,rfl⟩:=h
  exact ⟨rfl,_,hop⟩
 ·
  cases h
theorem aIx {P:Program}{t e:TypeId} (h:P.underlying t=some (.slice e)) (A:Option Addr) (n cap:Nat) (w:World):(Op.equal t (.slice A n cap) (.slice .none 0 0)).run P w=.ok A.isNone w:=by
 have H:∀ d,(Op.equalIn (d+1) t (.slice A n cap) (.slice .none 0 0)).run P w=.ok A.isNone w:=fun d=>by cases A <;> simp [Op.equalIn,run_underlying h]
 exact H 9999
theorem aOu {P:Program}{neg:Bool}{t t2:TypeId}{x y:Operand}{g:G}{w:World}{a:Act}{fr:Fr}{K:AV→Prop}{dst:Option Tmp}{ty:TypeId}{pos:String}{after:Array Edge}{guard:Option (Nat × Bool)}
  (hf:yV g w a.tmps fr) (hy:y=.const (.slice .none 0 0)) (h:aOt P neg t (fr.ev x) (fr.ev y) K) :
  ∃ b,(execOp a.eval ⟨dst,.binOp (if neg then .neq else .eql) t x y t2,ty,pos,after,guard⟩).run P w=.ok (.value (.bool b)) w∧K (.c (.bool b)):=by
 subst hy
 have hx:=fK hf x
 have key:∀ (A:Option Addr) (n cap:Nat),a.eval x=.slice A n cap→jZ P t=3→(execOp a.eval ⟨dst,.binOp (if neg then .neq else .eql) t x (.const (.slice .none 0 0)) t2,ty,pos,after,guard⟩).run P w=.ok (.value (.bool (A.isNone != neg))) w:=by
  intro A n cap hv h3
  obtain ⟨e,he⟩:=aLC h3
  have heq:=aIx (P:=P) he A n cap w
  have he2:a.eval (.const (.slice .none 0 0))=.slice .none 0 0:=rfl
  cases neg
  ·
   simp [execOp,hv,he2,eqGuard,binOp,heq]
  ·
   simp [execOp,hv,he2,eqGuard,binOp,heq]
 have hye:fr.ev (.const (.slice .none 0 0))=.nil:=rfl
 rw [hye] at h
 unfold aOt at h
 split at h
 ·
  rename_i sz xs hx0 _
  rw [hx0] at hx
  obtain ⟨h3,h⟩:=h
  have hx:=hx.c_inv
  generalize hv:a.eval x=v at hx
  cases hx with
  | empty A cap sz=>exact ⟨_,key A 0 cap hv h3,h A.isNone (fun _=>rfl)⟩
  | row b o cap sz xs vs hs hcap hc hvv=>exact ⟨_,key _ _ cap hv h3,h false (fun h=>by cases h)⟩
 ·
  rename_i t0 sz xs hx0 _
  rw [hx0] at hx
  obtain ⟨h3,h⟩:=h
  obtain ⟨_,_,e,cells,ho,_⟩:=hx.own_inv
  rcases ho.2 with ⟨hv,hn⟩ | ⟨b,cap,cur,hv,_⟩
  ·
   exact ⟨_,key .none 0 0 hv h3,h true (fun _=>eM hn)⟩
  ·
   exact ⟨_,key _ _ cap hv h3,h false (fun h=>by cases h)⟩
 ·
  rename_i hx0 _
  rw [hx0] at hx
  obtain ⟨h3,h⟩:=h
  generalize hv:a.eval x=v at hx
  cases hx
  exact ⟨_,key .none 0 0 hv h3,h⟩
 ·
  exact h.elim
theorem aLe {P:Program}{c:Ctx}{N:Nat}{o:Oper}{a:Act}{w:World}{fr:Fr}{σ:St}{K:Fr→St→Prop}{next:Act→World→Prop}{Q:Exit→Act→World→Prop} (hok:aDF N o=true)
  (h:aop P o fr σ K) (hs:Sim c N a w fr σ) (hn:∀ a' w' fr' σ',K fr' σ'→Sim c N a' w' fr' σ'→next a' w'):o.wp P a w next Q:=by
 obtain ⟨g,hi,hf,hN,hd⟩:=hs
 have hval:∀ (h:aEm P o fr.ev σ fun dm v σ'=>K ((fr.demo dm).put o.dst v) σ') (hst:o.dst.isSome=true∨∃ t x y,o.op=.store t x y),o.wp P a w next Q:=by
  intro h hst
  obtain ⟨nx,v,w',dm,av,σ',g',hr,hnx,hk,hi',st,hv⟩:=aJn hst hi hf h
  have hf':yV g' w' a.tmps (fr.demo dm):=by
   cases dm with
   | none=>exact hf.stp st
   | some f=>exact (hf.dem f).stp st
  unfold Oper.wp Oper.upon
  rw [hr]
  rcases hnx with rfl | ⟨rfl,rfl⟩
  ·
   exact hn _ _ _ _ hk (Sim.put hi' hf' hN hd (aBz hok) hv)
  ·
   exact hn _ _ _ _ hk (Sim.put hi' hf' hN hd (aBz hok) hv)
 have hdst:(∀ f args ts,o.op≠.call { callee:=.value f,args:=args,argTypes:=ts })→o.dst.isSome=true∨∃ t x y,o.op=.store t x y:=by
  intro hnc
  unfold aDF at hok
  split at hok
  ·
   rename_i d hd'
   exact .inl (by simp [hd'])
  ·
   split at hok
   ·
    rename_i t x y hop
    exact .inr ⟨t,x,y,hop⟩
   ·
    rename_i f args ts hop
    exact absurd hop (hnc f args ts)
   ·
    cases hok
 unfold aop at h
 split at h
 ·
  rename_i f args argTypes hop
  obtain ⟨dst,op,ty,pos,after,guard⟩:=o
  simp only at hop
  subst hop
  unfold aH6 at h
  split at h
  ·
   rename_i k caps hfv
   obtain ⟨d,ids,lt,as,σc,r,σr,hnd,hltn,hlt,hle,hst,hc,hk⟩:=h
   have hfe:=fK hf f
   rw [hfv] at hfe
   generalize hve:a.eval f=vf at hfe
   cases hfe with
   | fn _ vs _ hl ha =>
    have hx:=aLo (P:=P) (w:=w) (dst:=dst) (ty:=ty) (pos:=pos) (after:=after) (guard:=guard) (args:=args) (argTypes:=argTypes) hve hc.1
    unfold Oper.wp Oper.upon
    rw [hx]
    have hcs:=aOK hi d hnd hltn hlt ((aOD hf args).app ⟨hl,ha⟩) hle hst hc
    refine hcs.mono fun e w'=>?_
    rintro ⟨v,g'',rfl,hi',st,hv⟩
    exact hn _ _ _ _ hk (Sim.put hi' ((hf.dem _).stp st) hN hd (aBz hok) hv)
  ·
   exact h.elim
 ·
  rename_i hnc
  split at h
  ·
   rename_i neg t x y hnil
   obtain ⟨hy,t2,hop⟩:=aKF hnil
   obtain ⟨dst,op,ty,pos,after,guard⟩:=o
   simp only at hop
   subst hop
   obtain ⟨b,hr,hk⟩:=aOu (dst:=dst) (ty:=ty) (pos:=pos) (after:=after) (guard:=guard) (t2:=t2) hf hy h
   unfold Oper.wp Oper.upon
   rw [hr]
   exact hn _ _ _ _ hk (Sim.put hi hf hN hd (aBz hok) (.c (.bool b)))
  ·
   exact hval h (hdst (fun f args ts hop=>hnc f args ts hop))
theorem aOy {P:Program}{c:Ctx}{N:Nat}{o:Oper}{a:Act}{w:World}{fr:Fr}{σ:St}{K:Fr→St→Prop}{next:Act→World→Prop}{Q:Exit→Act→World→Prop} (hok:aDF N o=true)
 (h:aOw P o fr σ K) (hs:Sim c N a w fr σ) (hn:∀ a' w' fr' σ',K fr' σ'→Sim c N a' w' fr' σ'→next a' w'):o.wp P a w next Q:=aLe hok h hs hn
theorem aDy {P:Program}{c:Ctx}{N:Nat}{ops:Array Oper}{Q:Exit→Act→World→Prop}{K:Fr→St→Prop} (hQ:∀ a w fr σ,K fr σ→Sim c N a w fr σ→Q .normal a w) :
  ∀ (l:List Oper) (fr:Fr) (σ:St) (a:Act) (w:World),(∀ o∈l,aDF N o=true)→lS true P ops.toList l fr σ K→Sim c N a w fr σ→wpList P ops Q l a w
 | [],fr,σ,a,w,_,h,hs=>hQ a w fr σ h hs
 | o :: l,fr,σ,a,w,hok,h,hs=>by
  simp only [lS] at h
  have hs':=hs
  obtain ⟨g,hi,hf,hN,hd⟩:=hs
  unfold wpList
  rcases aBO (fun d=>hf d) h with ⟨hw,h⟩ | ⟨hw,h⟩
  ·
   rw [bB hw]
   exact .inl (aOy (hok o (by simp)) h hs' (fun a' w' fr' σ' hk hs2=>aDy hQ l fr' σ' a' w' (fun x hx=>hok x (by simp [hx])) hk hs2))
  ·
   rw [aY (by simp [hw])]
   exact aDy hQ l _ σ _ w (fun x hx=>hok x (by simp [hx])) h (Sim.put hi hf hN hd (aBz (hok o (by simp))) (.tup #[] [] rfl (fun i v a hv=>by simp at hv)))
def QE (σ:St) (v:AV):Option (Nat→Bool)→AV→St→Prop:=fun dm v' σ'=>dm=.none∧v'=v∧σ'=σ
def AQ (P:Program) (o:Oper) (ev:Operand→AV) (σ:St) (v:AV):Prop :=
 match o.op with
 | .call { callee:=.value f,args,argTypes }=>(match ev f with
  | .fn k caps=>∃ as r,AV.leL (AV.lowL [] (args.toList.map ev++caps)) as∧cR P k as [] r []∧v=r.low []
  | _=>False)
 | _=>aEm P o ev σ (QE σ v)
def evF (F:Nat→AV):Operand→AV
 | .tmp t=>F t
 | .const v=>AV.ofValue v
 | .func f=>.fn f []
 | .global _=>.any
theorem aIX (fr:Fr):evF fr.get=fr.ev:=by funext x;cases x <;> rfl
def wQ (F:Nat→AV) (dst:Option Tmp) (v:AV):Nat→AV:=match dst with | some d=>fun i=>if i=d then v else F i | _=>F
theorem aE8 (fr:Fr) (dst:Option Tmp) (v:AV):(fr.put dst v).get=wQ fr.get dst v:=by
 funext i
 cases dst <;> rfl
theorem aQU (F:Nat→AV) {x y:Option Tmp} (v u:AV) (h:∀ d,x=some d→y≠some d):wQ (wQ F x v) y u=wQ (wQ F y u) x v:=by
 cases x with
 | none=>rfl
 | some d =>
  cases y with
  | none=>rfl
  | some e =>
   have hne:d≠e:=fun he=>h d rfl (he ▸ rfl)
   funext i
   simp only [wQ]
   by_cases h1:i=e
   ·
    subst h1
    simp [kQ hne]
   ·
    simp [h1]
theorem aS8 {F:Nat→AV}{dst:Option Tmp}{v:AV}{x:Operand} (h:∀ d,dst=some d→x≠.tmp d):evF (wQ F dst v) x=evF F x:=by
 cases dst with
 | none=>rfl
 | some d =>
  cases x with
  | tmp t =>
   have:t≠d:=fun e=>h d rfl (e ▸ rfl)
   simp [evF,wQ,this]
  | _=>rfl
theorem aH7 {P:Program}{t:TypeId}{ev ev':Operand→AV}:∀ (parts:List (Nat × Operand)) (cs:List AV),(∀ x∈parts.map (·.2),ev x=ev' x)→aFo P t ev cs parts=aFo P t ev' cs parts
 | [],cs,_=>rfl
 | (i,x) :: r,cs,h=>by
  have hx:ev x=ev' x:=h x (by simp)
  have ih:=fun cs=>aH7 (P:=P) (t:=t) r cs (fun y hy=>h y (by simp only [iN,eT];exact .inr hy))
  simp only [aFo,hx,ih]
theorem aEk {hs:List Nat}{sz:Nat}{ev ev':Operand→AV}:∀ (parts:List (Nat × Operand)) (k:Nat),(∀ x∈parts.map (·.2),ev x=ev' x)→aB4 hs sz ev k parts=aB4 hs sz ev' k parts
 | [],k,_=>rfl
 | (i,x) :: r,k,h=>by
  have hx:ev x=ev' x:=h x (by simp)
  have ih:=fun k=>aEk (hs:=hs) (sz:=sz) r k (fun y hy=>h y (by simp only [iN,eT];exact .inr hy))
  simp only [aB4,hx,ih]
theorem aIa {ev ev':Operand→AV}:∀ (parts:List (Nat × Operand)) (k:Nat),(∀ x∈parts.map (·.2),ev x=ev' x)→aGs ev k parts=aGs ev' k parts
 | [],k,_=>rfl
 | (i,x) :: r,k,h=>by
  have hx:ev x=ev' x:=h x (by simp)
  have ih:=fun k=>aIa r k (fun y hy=>h y (by simp only [iN,eT];exact .inr hy))
  simp only [aGs,hx,ih]
theorem aFA {ev ev':Operand→AV}{o:Option Operand} (h:∀ x∈o.toList,ev x=ev' x):o.map ev=o.map ev':=by
 cases o with
 | none=>rfl
 | some x=>simp [h x (by simp)]
theorem aMU {P:Program}{o:Oper}{ev ev':Operand→AV}{σ:St}{K:Option (Nat→Bool)→AV→St→Prop} (h:∀ x∈o.op.operands,ev x=ev' x):eG P o ev σ K=eG P o ev' σ K:=by
 obtain ⟨dst,op,ty,pos,after,guard⟩:=o
 cases op <;> simp only [Op.operands] at h
 case move x=>simp only [eG,h x (by simp)]
 case assign x=>simp only [eG,h x (by simp)]
 case pick x a b=>simp only [eG,h x (by simp),h a (by simp),h b (by simp)]
 case alloc e=>rfl
 case box e x=>simp only [eG,h x (by simp)]
 case build t parts=>simp only [eG,aH7 (P:=P) (t:=t) parts.toList _ (fun x hx=>h x (by simpa using hx))]
 case buildSlice t n parts =>
  have hp:∀ x∈parts.toList.map (·.2),ev x=ev' x:=fun x hx=>h x (by simpa using hx)
  simp only [eG,aIa parts.toList 0 hp]
  have:∀ hs sz,aB4 hs sz ev 0 parts.toList=aB4 hs sz ev' 0 parts.toList:=fun hs sz=>aEk parts.toList 0 hp
  simp only [this]
 case load t x=>simp only [eG,h x (by simp)]
 case store t x y=>simp only [eG,h x (by simp),h y (by simp)]
 case nilCheck x=>simp only [eG,h x (by simp)]
 case binOp op t x y t2=>simp only [eG,h x (by simp),h y (by simp)]
 case unOp op t x=>simp only [eG,h x (by simp)]
 case convert s d x=>simp only [eG,h x (by simp)]
 case makeFunc fn first captured =>
  have hc:captured.toList.map ev=captured.toList.map ev':=List.map_congr_left fun x hx=>h x (by simp at hx;simp [hx])
  cases fn <;> simp only [eG,hc]
 case slice t x lo hi mx =>
  have h1:lo.map ev=lo.map ev':=aFA fun y hy=>h y (by simp at hy;simp [hy])
  have h2:hi.map ev=hi.map ev':=aFA fun y hy=>h y (by simp at hy;simp [hy])
  cases mx <;> simp only [eG,h x (by simp),h1,h2]
 case fieldAddr t x f=>simp only [eG,h x (by simp)]
 case field t x f=>simp only [eG,h x (by simp)]
 case indexAddr t x ix=>simp only [eG,h x (by simp),h ix (by simp)]
 case index t x ix=>simp only [eG,h x (by simp),h ix (by simp)]
 case extract x i=>simp only [eG,h x (by simp)]
 case call c =>
  obtain ⟨callee,args,argTypes⟩:=c
  cases callee with
  | builtin b =>
   have h':∀ x∈args.toList,ev x=ev' x:=fun x hx=>h x (by simp [Call.operands];simpa using hx)
   cases b
   case len =>
    simp only [eG]
    split
    ·
     rename_i x t h1 h2
     rw [h' x (by simp [h1])]
    ·
     rfl
   case append =>
    simp only [eG]
    split
    ·
     rename_i s x t tx h1 h2
     rw [h' s (by simp [h1]),h' x (by simp [h1])]
    ·
     rfl
   case max =>
    simp only [eG]
    split
    ·
     rename_i x y h1
     rw [h' x (by simp [h1]),h' y (by simp [h1])]
    ·
     rfl
   case min =>
    simp only [eG]
    split
    ·
     rename_i x y h1
     rw [h' x (by simp [h1]),h' y (by simp [h1])]
    ·
     rfl
   all_goals rfl
  | _=>rfl
 all_goals rfl
theorem aQv {P:Program}{o:Oper}{ev ev':Operand→AV}{v:AV} (h:∀ x∈o.op.operands,ev x=ev' x):axv P o ev v=axv P o ev' v:=by
 obtain ⟨dst,op,ty,pos,after,guard⟩:=o
 cases op <;> simp only [Op.operands] at h
 case index t x ix=>simp only [axv,h x (by simp),h ix (by simp)]
 case indexAddr t x ix=>simp only [axv,h x (by simp),h ix (by simp)]
 case build t parts =>
  have hp:∀ x∈parts.toList.map (·.2),ev x=ev' x:=fun x hx=>h x (by simpa using hx)
  have:∀ hs sz,aB4 hs sz ev 0 parts.toList=aB4 hs sz ev' 0 parts.toList:=fun hs sz=>aEk parts.toList 0 hp
  simp only [axv,this]
 case binOp op t x y t2=>simp only [axv,h x (by simp),h y (by simp)]
 case sliceToArrayPointer t x=>simp only [axv,h x (by simp)]
 all_goals rfl
theorem aPE {P:Program}{o:Oper}{ev ev':Operand→AV}{v:AV} (h:∀ x∈o.op.operands,ev x=ev' x):avv P o ev v→avv P o ev' v:=by
 obtain ⟨dst,op,ty,pos,after,guard⟩:=o
 cases op <;> simp only [Op.operands] at h
 case slice t x lo hi mx =>
  cases lo <;> cases hi <;> cases mx <;> first | exact id | (simp only [avv];rw [h x (by simp)];exact id)
 case indexAddr t x ix=>simp only [avv,h x (by simp),h ix (by simp)];exact id
 case fieldAddr t x f=>simp only [avv,h x (by simp)];exact id
 case nilCheck x=>simp only [avv,h x (by simp)];exact id
 case load t x=>simp only [avv,h x (by simp)];exact id
 case unOp op t x=>cases op <;> first | exact id | (simp only [avv,h x (by simp)];exact id)
 case call c =>
  obtain ⟨callee,args,argTypes⟩:=c
  cases callee with
  | builtin b =>
   have h':∀ x∈args.toList,ev x=ev' x:=fun x hx=>h x (by simp [Call.operands];simpa using hx)
   cases b
   case len =>
    rintro ⟨x,t,n,h1,h2,h3,h4,h5⟩
    exact ⟨x,t,n,h1,h2,h3,h4,by rw [← h' x (by simp [h1])];exact h5⟩
   all_goals exact id
  | _=>exact id
 all_goals exact id
theorem aPF {P:Program}{o:Oper}{ev ev':Operand→AV}{σ σ':St}{dm:Option (Nat→Bool)}{v:AV} (h:∀ x∈o.op.operands,ev x=ev' x):axg P o ev σ dm v σ'→axg P o ev' σ dm v σ':=by
 obtain ⟨dst,op,ty,pos,after,guard⟩:=o
 cases op <;> simp only [Op.operands] at h
 case makeSlice t l c=>simp only [axg,h l (by simp),h c (by simp)];exact id
 case call c =>
  obtain ⟨callee,args,argTypes⟩:=c
  cases callee with
  | builtin b =>
   have h':∀ x∈args.toList,ev x=ev' x:=fun x hx=>h x (by simp [Call.operands];simpa using hx)
   cases b
   case append =>
    rintro ⟨s,x,t,tx,e,sz,by_,f,xs,ys,h1,h2,h3⟩
    refine ⟨s,x,t,tx,e,sz,by_,f,xs,ys,h1,h2,?_⟩
    rw [← h' x (by simp [h1]),← h' s (by simp [h1])]
    exact h3
   all_goals exact id
  | _=>exact id
 all_goals exact id
theorem aQq {P:Program}{o:Oper}{ev ev':Operand→AV}{v:AV} (h:∀ x∈o.op.operands,ev x=ev' x):avv P o ev v=avv P o ev' v:=propext ⟨aPE h,aPE fun x hx=>(h x hx).symm⟩
theorem aQt {P:Program}{o:Oper}{ev ev':Operand→AV}{σ σ':St}{dm:Option (Nat→Bool)}{v:AV} (h:∀ x∈o.op.operands,ev x=ev' x):axg P o ev σ dm v σ'=axg P o ev' σ dm v σ':=propext ⟨aPF h,aPF fun x hx=>(h x hx).symm⟩
theorem aFK {P:Program}{o:Oper}{ev ev':Operand→AV}{σ:St}{K:Option (Nat→Bool)→AV→St→Prop} (h:∀ x∈o.op.operands,ev x=ev' x):aEm P o ev σ K=aEm P o ev' σ K:=by
 unfold aEm
 rw [aMU h]
 simp only [aQv h,aQq h,aQt h]
theorem aMI {P:Program}{o:Oper}{ev ev':Operand→AV}{σ:St}{v:AV} (h:∀ x∈o.op.operands,ev x=ev' x):AQ P o ev σ v=AQ P o ev' σ v:=by
 unfold AQ
 split
 ·
  rename_i f args ts hop
  rw [hop] at h
  have hf:ev f=ev' f:=h f (by simp [Op.operands,Call.operands])
  have ha:args.toList.map ev=args.toList.map ev':=List.map_congr_left fun x hx=>h x (by simp at hx;simp [Op.operands,Call.operands,hx])
  rw [hf,ha]
 ·
  exact aFK h
def aDv (c:Ctx) (N:Nat) (a:Act) (w:World) (F:Nat→AV) (σ:St):Prop:=∃ g,tT c g w σ∧(∀ d,nA g w (a.tmps.getD d undef) (F d))∧a.tmps.size=N∧a.defers=[]
theorem aDv.of {c:Ctx}{N:Nat}{a:Act}{w:World}{fr:Fr}{σ:St} (h:Sim c N a w fr σ):aDv c N a w fr.get σ:=h
theorem Sim.of {c:Ctx}{N:Nat}{a:Act}{w:World}{fr:Fr}{σ:St} (h:aDv c N a w fr.get σ):Sim c N a w fr σ:=h
theorem aDv.put {c:Ctx}{N:Nat}{a:Act}{w:World}{F:Nat→AV}{σ:St}{g:G} (hi:tT c g w σ) (hf:∀ d,nA g w (a.tmps.getD d undef) (F d)) (hN:a.tmps.size=N) (hd:a.defers=[]) {dst:Option Tmp}{v:Value}{av:AV}
  (hdst:∀ d,dst=some d→d<N) (hv:nA g w v av):aDv c N (a.put dst v) w (wQ F dst av) σ:=by
 obtain ⟨h1,h2,h3⟩:=Act.put_eq a hd dst v
 refine ⟨g,hi,?_,h3.trans hN,h2⟩
 rw [h1]
 cases dst with
 | none=>exact hf
 | some d =>
  intro k
  have hlt:d<a.tmps.size:=by rw [hN];exact hdst d rfl
  simp only [Act.put,wQ]
  split
  ·
   rename_i e
   subst e
   simpa [dY,Array.getElem?_setIfInBounds_self_of_lt hlt] using hv
  ·
   rename_i e
   have:=hf k
   simpa [dY,nR (kQ e)] using this
theorem aLm {g:G}{w:World}{a:Act}{F:Nat→AV} (h:∀ d,nA g w (a.tmps.getD d undef) (F d)) (x:Operand):nA g w (a.eval x) (evF F x):=by
 cases x with
 | tmp t=>exact h t
 | const v=>exact nA.ofValue g w v
 | func f=>exact .fn f #[] [] rfl (fun i v a hv=>by simp at hv)
 | global n=>exact .any
theorem tT.drew {c:Ctx}{g:G}{w:World}{σ:St} (hi:tT c g w σ):tT c g { w with drawn:=w.drawn+1 } σ∧Stp g w g { w with drawn:=w.drawn+1 }:=by
 have st:Stp g w g { w with drawn:=w.drawn+1 }:=⟨fun _ _ h=>h,fun _ _ _=>rfl,fun _ _ h=>h,fun _ _ h=>⟨h,rfl,fun _ h=>h⟩⟩
 exact ⟨⟨hi.os,hi.tape,hi.output,hi.size,hi.old,hi.Ile,hi.Iold,hi.Ilt,hi.βpre,hi.βnew,hi.βnd,hi.βlen,hi.βI,hi.βlt,hi.τnew,hi.τinj,fun id cs b hs hb=>by
  obtain ⟨cur,e,hh,hr⟩:=hi.store id cs b hs hb
  exact ⟨cur,e,hh,hr.stp st⟩,hi.cell0,hi.glo⟩,st⟩
def aOY (F:Nat→AV):List Nat→Fr
 | []=>[]
 | t :: ts=>(t,F t) :: aOY F ts
theorem aGy (F:Nat→AV) (l:List Nat) (d:Nat):(aOY F l).get d=if d∈l then F d else .any:=by
 induction l with
 | nil=>rfl
 | cons t ts ih =>
  simp only [aOY,Fr.get,ih,eT]
  by_cases h:d=t
  ·
   subst h;simp
  ·
   simp [h]
def aKf (o:Oper):List Nat:=o.op.operands.toList.filterMap fun | .tmp t=>some t | _=>none
theorem aTb (F:Nat→AV) (o:Oper):∀ x∈o.op.operands,(aOY F (aKf o)).ev x=evF F x:=by
 intro x hx
 cases x with
 | tmp t =>
  have:t∈aKf o:=sG.2 ⟨.tmp t,by simpa using hx,rfl⟩
  simp [Fr.ev,evF,aGy,this]
 | _=>rfl
theorem aOJ {P:Program}{c:Ctx}{g:G}{w:World}{σ:St} (hi:tT c g w σ) {f:FuncId}{vs:Array Value}{args as:List AV}{r:AV}
  (hargs:gB g w vs args) (hle:AV.leL (AV.lowL [] args) as) (hc:cR P f as [] r []) :
  Calls P f vs w fun e w'=>∃ v g'',e=.returned v∧tT c g'' w' σ∧Stp g w g'' w'∧nA g'' w' v (r.low []):=by
 obtain ⟨_,hcall⟩:=hc
 have:=hcall w g.I [] (fun _=>none) vs hi.Ilt List.nodup_nil (by simp) (by simp) (by simp) (by simp) rfl (fun id cs b hs hb=>by simp at hs) (gB.le hle (hargs.low [] [] (by simp))) hi.now
 refine this.mono fun e w'=>?_
 rintro ⟨v,g',he,hi',hv⟩
 have hno:∀ b:Nat,¬∃ t:Nat,(fun _=>none:Nat→Option Nat) t=some b:=fun b h=>by obtain ⟨t,h⟩:=h;cases h
 have hheap:∀ b,b<w.heap.size→w'.heap[b]?=w.heap[b]?:=fun b hb=>hi'.old b hb (by simp) (hno b)
 have hsz:w.heap.size≤w'.heap.size:=hi'.size
 let g'':G:={ I:=g'.I,β:=g.β,τ:=g.τ }
 have st:Stp g w g'' w':=⟨fun b o h=>hi'.Ile b o h,fun b o h=>by simp [World.cell?,hheap b (hi.Ilt b o h)],fun _ _ h=>h,fun t b htb=>⟨htb,hheap b (hi.τnew t b htb).2.1,fun o h=>hi'.Iold b o h (hi.τnew t b htb).2.1 (hno b)⟩⟩
 refine ⟨v,g'',he,⟨hi'.os.trans hi.os,hi'.tape.trans hi.tape,hi'.output.trans hi.output,hG hi.size hsz,fun b hb hn ho=>(hheap b (fG hb hi.size)).trans (hi.old b hb hn ho),fun b o h=>hi'.Ile b o (hi.Ile b o h),fun b o h hb ho=>hi.Iold b o (hi'.Iold b o h (fG hb hi.size) (hno b)) hb ho,hi'.Ilt,hi.βpre,hi.βnew,hi.βnd,hi.βlen,
  fun b hb o h=>hi.βI b hb o (hi'.Iold b o h (hi.βlt b hb) (hno b)),fun b hb=>fG (hi.βlt b hb) hsz,fun t b htb=>?_,hi.τinj,fun id cs b hs hb=>?_,fun b o h=>(st.cell b o (hi.Ile b o h)).trans (hi.cell0 b o h),hi.glo⟩,st,?_⟩
 ·
  obtain ⟨h1,h2,h3⟩:=hi.τnew t b htb
  exact ⟨h1,fG h2 hsz,h3⟩
 ·
  obtain ⟨cur,e,hh,hr⟩:=hi.store id cs b hs hb
  exact ⟨cur,e,(hheap b (hi.βlt b (dA hb))).trans hh,hr.stp st⟩
 ·
  have hlow:=hv.low [] [] (by simp)
  have st2:Stp ⟨g'.I,[],fun _=>.none⟩ w' g'' w':=⟨fun b o h=>h,fun _ _ _=>rfl,fun id b h=>by simp at h,fun t b h=>by simp at h⟩
  exact hlow.stp st2
theorem aNF {P:Program}{c:Ctx}{N:Nat}{o:Oper}{a:Act}{w:World}{F:Nat→AV}{σ:St}{v:AV}{next:Act→World→Prop}{Q:Exit→Act→World→Prop} (hok:aDF N o=true)
  (h:AQ P o (evF F) σ v) (hs:aDv c N a w F σ) (hn:∀ a' w',aDv c N a' w' (wQ F o.dst v) σ→next a' w'):o.wp P a w next Q:=by
 obtain ⟨g,hi,hf,hN,hd⟩:=hs
 obtain ⟨dst,op,ty,pos,after,guard⟩:=o
 by_cases hcall:∃ f args ts,op=.call { callee:=.value f,args:=args,argTypes:=ts }
 ·
  obtain ⟨f,args,ts,rfl⟩:=hcall
  simp only [AQ] at h
  split at h
  ·
   rename_i k caps hfv
   obtain ⟨as,r,hle,hc,rfl⟩:=h
   have hfe:=aLm hf f
   rw [hfv] at hfe
   generalize hve:a.eval f=vf at hfe
   cases hfe with
   | fn _ vs _ hl ha =>
    have hx:=aLo (P:=P) (w:=w) (dst:=dst) (ty:=ty) (pos:=pos) (after:=after) (guard:=guard) (args:=args) (argTypes:=ts) hve hc.1
    have hargs:gB g w (args.map a.eval) (args.toList.map (evF F)):=by
     refine ⟨by simp,fun i v av hv hav=>?_⟩
     rw [Array.getElem?_map,bV] at hv
     obtain ⟨x,hx,rfl⟩:=hv
     rw [bY,dS,hx] at hav
     simp at hav
     subst hav
     exact aLm hf x
    unfold Oper.wp Oper.upon
    rw [hx]
    refine (aOJ hi (hargs.app ⟨hl,ha⟩) hle hc).mono fun e w'=>?_
    rintro ⟨v,g'',rfl,hi',st,hv⟩
    exact hn _ _ (aDv.put hi' (fun d=>(hf d).stp st) hN hd (aBz hok) hv)
  ·
   exact h.elim
 ·
  have h':aEm P ⟨dst,op,ty,pos,after,guard⟩ (aOY F (aKf ⟨dst,op,ty,pos,after,guard⟩)).ev σ (QE σ v):=by
   rw [aFK (aTb F ⟨dst,op,ty,pos,after,guard⟩)]
   unfold AQ at h
   split at h
   ·
    rename_i f args ts hop
    exact absurd ⟨f,args,ts,hop⟩ hcall
   ·
    exact h
  have hfr:yV g w a.tmps (aOY F (aKf ⟨dst,op,ty,pos,after,guard⟩)):=by
   intro d
   rw [aGy]
   split
   ·
    exact hf d
   ·
    exact .any
  have hst:(⟨dst,op,ty,pos,after,guard⟩:Oper).dst.isSome=true∨∃ t x y,(⟨dst,op,ty,pos,after,guard⟩:Oper).op=.store t x y:=by
   unfold aDF at hok
   split at hok
   ·
    rename_i d hd'
    exact .inl (by simp only at hd';simp [hd'])
   ·
    split at hok
    ·
     rename_i t x y hop
     exact .inr ⟨t,x,y,hop⟩
    ·
     rename_i f args ts hop
     exact absurd ⟨f,args,ts,hop⟩ hcall
    ·
     cases hok
  obtain ⟨nx,u,w',dm,av,σ',g',hr,hnx,⟨rfl,rfl,rfl⟩,hi',st,hv⟩:=aJn hst hi hfr h'
  unfold Oper.wp Oper.upon
  rw [hr]
  rcases hnx with rfl | ⟨rfl,rfl⟩
  ·
   exact hn _ _ (aDv.put hi' (fun d=>(hf d).stp st) hN hd (aBz hok) hv)
  ·
   exact hn _ _ (aDv.put hi' (fun d=>(hf d).stp st) hN hd (aBz hok) hv)
def YA (P:Program) (ops:Array Oper) (σ:St) (o:Oper) (v:AV) (F:Nat→AV):Prop:=qW ops.toList o F (AQ P o (evF F) σ v) (v=.tup [])
theorem YA.put {P:Program}{ops:Array Oper}{σ:St}{o:Oper}{v:AV}{F:Nat→AV}{dst:Option Tmp}{u:AV} (h:∀ d,dst=some d→d ∉ o.looksAt ops):YA P ops σ o v (wQ F dst u)↔YA P ops σ o v F:=by
 have hq:AQ P o (evF (wQ F dst u)) σ v=AQ P o (evF F) σ v:=aMI fun x hx=>aS8 fun d hd e=>by
  refine h d hd ?_
  subst e
  unfold Oper.looksAt
  exact List.mem_append_left _ (sG.2 ⟨.tmp d,by simpa using hx,rfl⟩)
 unfold YA qW
 rw [hq]
 cases hg:o.guard with
 | none=>exact Iff.rfl
 | some p =>
  obtain ⟨j,want⟩:=p
  simp only
  cases hp:ops.toList[j]? with
  | none=>exact Iff.rfl
  | some q =>
   simp only
   cases hd:q.dst with
   | none=>exact Iff.rfl
   | some d =>
    simp only
    have hne:wQ F dst u d=F d:=by
     cases dst with
     | none=>rfl
     | some e =>
      have:d≠e:=by
       rintro rfl
       refine h d rfl ?_
       unfold Oper.looksAt
       rw [dS] at hp
       exact List.mem_append_right _ (by simp [hg,hp,hd])
      simp [wQ,this]
    rw [hne]
section
variable (P:Program) (ops:Array Oper) (σ:St) (pre:Nat) (QF:Array Bool→(Nat→AV)→Prop)
def qA (i:Nat) (K:(Nat→AV)→Prop) (F:Nat→AV):Prop :=
 match ops[i]? with
 | some o=>∃ v,YA P ops σ o v F∧K (wQ F o.dst v)
 | _=>K F
def aKz:Nat→Array Bool→(Nat→AV)→Prop
 | 0,listed,F=>QF listed F
 | n+1,listed,F=>Region.ready .any ops listed≠[]∧∀ i∈Region.ready .any ops listed,i<pre∧qA P ops σ i (aKz n (listed.setIfInBounds i true)) F
end
def DC (ops:Array Oper) (listed:Array Bool):Prop:=∀ (k:Nat) (o:Oper),ops[k]?=some o→listed.getD k false=true→∀ e∈o.after,Region.binds .any e=true→listed.getD e.on false=true
def qL (ops:Array Oper):Nat→Nat→Nat→Bool
 | 0,_,_=>false
 | n+1,i,j=>match ops[j]? with
  | some o=>o.after.any fun e=>Region.binds .any e&&(e.on==i||qL ops n i e.on)
  | _=>false
theorem aHk {ops:Array Oper}{listed:Array Bool} (hdc:DC ops listed):∀ (n i j:Nat),qL ops n i j=true→listed.getD j false=true→listed.getD i false=true
 | 0,i,j,h,_=>by simp [qL] at h
 | n+1,i,j,h,hl=>by
  simp only [qL] at h
  split at h
  ·
   rename_i o ho
   obtain ⟨e,he,hb⟩:=sF.1 h
   simp only [aR,eC,nK] at hb
   have hle:=hdc j o ho hl e he hb.1
   rcases hb.2 with h1 | h1
   ·
    rw [← h1];exact hle
   ·
    exact aHk hdc n i e.on h1 hle
  ·
   cases h
theorem aIs {ops:Array Oper}{listed:Array Bool} (hdc:DC ops listed) (n i j:Nat) (h:qL ops n i j=true) (hr:j∈Region.ready .any ops listed):listed.getD i false=true:=by
 obtain ⟨_,oj,hoj,hall⟩:=mem_ready.1 hr
 cases n with
 | zero=>simp [qL] at h
 | succ n =>
  simp only [qL,hoj] at h
  obtain ⟨e,he,hb⟩:=sF.1 h
  simp only [aR,eC,nK] at hb
  have hle:=hall e he hb.1
  rcases hb.2 with h1 | h1
  ·
   rw [← h1];exact hle
  ·
   exact aHk hdc n i e.on h1 hle
theorem DC.set {ops:Array Oper}{listed:Array Bool}{i:Nat} (h:DC ops listed) (hr:i∈Region.ready .any ops listed):DC ops (listed.setIfInBounds i true):=by
 intro k o ho hl e he hb
 by_cases hki:k=i
 ·
  subst hki
  obtain ⟨_,oj,hoj,hall⟩:=mem_ready.1 hr
  rw [ho] at hoj
  cases hoj
  exact getD_set_true (hall e he hb)
 ·
  rw [getD_set_ne false (kQ hki)] at hl
  exact getD_set_true (h k o ho hl e he hb)
theorem aGz {listed:Array Bool}{i:Nat} (h:listed.getD i true=false):listed.getD i false=false:=by
 rcases Nat.lt_or_ge i listed.size with h' | h'
 ·
  simp [h'] at h ⊢
  exact h
 ·
  simp [Array.getElem?_eq_none h']
theorem aMG {P:Program}{ops:Array Oper}{σ:St}{pre:Nat}{QF:Array Bool→(Nat→AV)→Prop} (hQF:∀ L F,QF L F→∀ j,j<pre→L.getD j false=true) {i:Nat}{oi:Oper}{v:AV} (hi:ops[i]?=some oi) (hip:i<pre)
  (hw:∀ j oj,ops[j]?=some oj→pre≤j→qL ops ops.size i j=true) :
  ∀ (fuel:Nat) (listed:Array Bool) (F:Nat→AV),DC ops listed →
   (∀ j oj,ops[j]?=some oj→j<pre→j≠i→listed.getD j true=false→(∀ e∈oj.after,Region.binds .any e=true→e.on≠i)→oi.apart ops oj=true) →
   i∈Region.ready .any ops listed→YA P ops σ oi v F→aKz P ops σ pre QF fuel (listed.setIfInBounds i true) (wQ F oi.dst v)→aKz P ops σ pre QF (fuel+1) listed F:=by
 have suffix:∀ (listed:Array Bool),DC ops listed→i∈Region.ready .any ops listed→∀ j∈Region.ready .any ops listed,j<pre:=by
  intro listed hdc hr j hj
  rcases Nat.lt_or_ge j pre with h | h
  ·
   exact h
  ·
   obtain ⟨_,oj,hoj,_⟩:=mem_ready.1 hj
   have h1:=aIs hdc _ i j (hw j oj hoj h) hj
   have h2:=aGz (mem_ready.1 hr).1
   rw [h1] at h2
   cases h2
 intro fuel
 induction fuel with
 | zero =>
  intro listed F hdc _ hr hy H
  refine ⟨fun h=>(by rw [h] at hr;cases hr),fun j hj=>⟨suffix listed hdc hr j hj,?_⟩⟩
  by_cases hji:j=i
  ·
   subst hji
   simp only [qA,hi]
   exact ⟨v,hy,H⟩
  ·
   exfalso
   have h1:=hQF _ _ H j (suffix listed hdc hr j hj)
   rw [getD_set_ne false (kQ hji)] at h1
   have h2:=aGz (mem_ready.1 hj).1
   rw [h1] at h2
   cases h2
 | succ fuel ih =>
  intro listed F hdc hfree hr hy H
  refine ⟨fun h=>(by rw [h] at hr;cases hr),fun j hj=>⟨suffix listed hdc hr j hj,?_⟩⟩
  by_cases hji:j=i
  ·
   subst hji
   simp only [qA,hi]
   exact ⟨v,hy,H⟩
  ·
   obtain ⟨hjp,h1⟩:=H.2 j (ready_mono hj hji)
   obtain ⟨hjun,oj,hoj,hall⟩:=mem_ready.1 hj
   have hnot:∀ e∈oj.after,Region.binds .any e=true→e.on≠i:=fun e he hb heq=>by
    have h1:=hall e he hb
    have h0:=aGz (mem_ready.1 hr).1
    rw [heq] at h1
    rw [h1] at h0
    cases h0
   obtain ⟨a1,a2,a3⟩:=Oper.apart_spec (hfree j oj hoj (suffix listed hdc hr j hj) hji hjun hnot)
   simp only [qA,hoj] at h1 ⊢
   obtain ⟨u,hu,hk⟩:=h1
   refine ⟨u,(YA.put a1).1 hu,?_⟩
   have hfree':∀ k ok,ops[k]?=some ok→k<pre→k≠i→(listed.setIfInBounds j true).getD k true=false →
     (∀ e∈ok.after,Region.binds .any e=true→e.on≠i)→oi.apart ops ok=true:=fun k ok hk hkp hki hun hno=>by
    refine hfree k ok hk hkp hki ?_ hno
    by_cases hjk:j=k
    ·
     subst hjk;exact hjun
    ·
     rw [getD_set_ne true hjk] at hun;exact hun
   refine ih (listed.setIfInBounds j true) _ (hdc.set hj) hfree' (ready_mono hr (kQ hji)) ((YA.put a3).2 hy) ?_
   rw [Array.setIfInBounds_comm _ _ hji,← aQU F v u a2]
   exact hk
def aTj (ops:Array Oper) (pre:Nat):Nat→Nat→Array Bool→Bool
 | 0,_,_=>true
 | n+1,k,listed=>(Region.ready .any ops listed).contains k&&(match ops[k]? with
  | some ok=>(List.range pre).all fun j=>j==k||listed.getD j true||(match ops[j]? with
   | some oj=>oj.after.any (fun e=>Region.binds .any e&&e.on==k)||ok.apart ops oj
   | _=>true)
  | _=>false)&&aTj ops pre n (k+1) (listed.setIfInBounds k true)
def aSa (ops:Array Oper):Nat→Nat→Array Bool→Bool
 | 0,_,listed=>Region.ready .any ops listed==[]
 | n+1,k,listed=>(Region.ready .any ops listed==[k])&&aSa ops n (k+1) (listed.setIfInBounds k true)
def tH (n k:Nat):Array Bool:=(List.range k).foldl (fun l i=>l.setIfInBounds i true) (Array.replicate n false)
def aOP (ops:Array Oper) (pre:Nat):Bool :=
 decide (pre≤ops.size)&&aTj ops pre pre 0 (Array.replicate ops.size false)&&aSa ops (ops.size - pre) pre (tH ops.size pre) &&
 ((List.range ops.size).all fun j=>decide (j<pre)||(List.range pre).all fun i=>qL ops ops.size i j)&&(List.range pre).all fun j=>(tH ops.size pre).getD j false
theorem aC2 (n k:Nat):tH n (k+1)=(tH n k).setIfInBounds k true:=by
 simp [tH,List.range_succ]
def aqs (P:Program) (ops:List Oper):List Oper→Fr→St→(Fr→Prop)→Prop
 | [],fr,σ,K=>K fr
 | o :: r,fr,σ,K=>qW ops o fr.get (∃ v,AQ P o fr.ev σ v∧aqs P ops r (fr.put o.dst v) σ K) (aqs P ops r (fr.put o.dst (.tup [])) σ K)
theorem aPC {P:Program}{ops:Array Oper}{σ:St}{pre:Nat}{QF:Array Bool→(Nat→AV)→Prop}{K:Fr→Prop} (hQF:∀ L F,QF L F→∀ j,j<pre→L.getD j false=true)
  (hw:∀ i j oj,i<pre→ops[j]?=some oj→pre≤j→qL ops ops.size i j=true) (hK:∀ fr,K fr→QF (tH ops.size pre) fr.get) :
  ∀ (l:List Oper) (k:Nat) (fr:Fr),k+l.length=pre→(∀ j,j<l.length→l[j]?=ops[k+j]?)→DC ops (tH ops.size k)→aTj ops pre l.length k (tH ops.size k)=true→aqs P ops.toList l fr σ K →
   aKz P ops σ pre QF l.length (tH ops.size k) fr.get
 | [],k,fr,hkl,_,_,_,h=>by
  have:k=pre:=by simpa using hkl
  subst this
  exact hK fr h
 | o :: l,k,fr,hkl,hl,hdc,hB,h=>by
  have h0:ops[k]?=some o:=by have:=hl 0 (by simp);simpa using this.symm
  simp only [fB,aTj,h0,aR] at hB
  obtain ⟨⟨hr,hf⟩,hB'⟩:=hB
  have hr':k∈Region.ready .any ops (tH ops.size k):=by simpa using hr
  simp only [aqs] at h
  obtain ⟨v,hy,hrest⟩:∃ v,YA P ops σ o v fr.get∧aqs P ops.toList l (fr.put o.dst v) σ K:=by
   unfold YA
   rw [aIX]
   unfold qW at h ⊢
   split at h
   ·
    rename_i hg
    exact h
   ·
    rename_i j want hg
    split at h
    ·
     rename_i p hp
     split at h
     ·
      rename_i d hd
      split at h
      ·
       rename_i b hb
       by_cases hbw:b=want
       ·
        obtain ⟨v,h1,h2⟩:=h.1 hbw
        exact ⟨v,⟨fun _=>h1,fun hn=>absurd hbw hn⟩,h2⟩
       ·
        exact ⟨.tup [],⟨fun hn=>absurd hn hbw,fun _=>rfl⟩,h.2 hbw⟩
      ·
       exact ⟨.tup [],rfl,h⟩
      ·
       exact h.elim
     ·
      exact h.elim
    ·
     exact h.elim
  have hfree:∀ j oj,ops[j]?=some oj→j<pre→j≠k→(tH ops.size k).getD j true=false→(∀ e∈oj.after,Region.binds .any e=true→e.on≠k)→o.apart ops oj=true:=by
   intro j oj hj hjp hjk hun hno
   have:=cI.1 hf j (fE.2 hjp)
   simp only [eC,nK,hun,hj,jN,or_false,hjk,false_or] at this
   rcases this with h1 | h1
   ·
    exfalso
    obtain ⟨e,he,hb⟩:=sF.1 h1
    simp only [aR,nK] at hb
    exact hno e he hb.1 hb.2
   ·
    exact h1
  refine aMG hQF h0 (by simp at hkl;omega) (fun j oj hj hp=>hw k j oj (by simp at hkl;omega) hj hp) l.length _ _ hdc hfree hr' hy ?_
  rw [← aC2,← aE8]
  refine aPC hQF hw hK l (k+1) _ (by simp at hkl;omega) (fun j hj=>?_) ?_ ?_ hrest
  ·
   have:=hl (j+1) (by simp;omega)
   rw [oH] at this
   rw [this]
   congr 1
   omega
  ·
   rw [aC2]
   exact hdc.set hr'
  ·
   rw [aC2]
   exact hB'
theorem aD0 {P:Program}{c:Ctx}{N:Nat}{ops:Array Oper}{σ:St}{pre m:Nat}{QF:Array Bool→(Nat→AV)→Prop}{Q:Exit→Act→World→Prop} (hok:∀ (i:Nat) o,ops[i]?=some o→aDF N o=true)
  (hQ:∀ L F a w,QF L F→aDv c N a w F σ→wpAny P .any ops Q m L a w):∀ (n:Nat) (listed:Array Bool) (F:Nat→AV) (a:Act) (w:World),aKz P ops σ pre QF n listed F→aDv c N a w F σ→wpAny P .any ops Q (n+m) listed a w
 | 0,listed,F,a,w,h,hs=>by rw [jF];exact hQ listed F a w h hs
 | n+1,listed,F,a,w,h,hs=>by
  rw [show n+1+m=(n+m)+1 by omega]
  refine ⟨fun h0=>absurd h0 h.1,fun i hi=>?_⟩
  obtain ⟨_,hq⟩:=h.2 i hi
  unfold wpOp
  unfold qA at hq
  cases ho:ops[i]? with
  | none =>
   simp only [ho] at hq
   exact aD0 hok hQ n _ F a w hq hs
  | some o =>
   simp only [ho] at hq
   obtain ⟨v,hy,hk⟩:=hq
   have hs':=hs
   obtain ⟨g,hinv,hf,hN,hd⟩:=hs
   rcases aBO hf hy with ⟨hw,hy⟩ | ⟨hw,rfl⟩
   ·
    simp only [hw,cL]
    exact .inl (aNF (hok i o ho) hy hs' (fun a' w' hs2=>aD0 hok hQ n _ _ a' w' hk hs2))
   ·
    simp only [hw,jN,dZ]
    exact aD0 hok hQ n _ _ _ w hk (aDv.put hinv hf hN hd (aBz (hok i o ho)) (.tup #[] [] rfl (fun i v a hv=>by simp at hv)))
theorem aLG {P:Program}{ops:Array Oper}{Q:Exit→Act→World→Prop}:∀ (l:List Oper) (k:Nat) (listed:Array Bool) (a:Act) (w:World),(∀ j,l[j]?=ops[k+j]?)→aSa ops l.length k listed=true→wpList P ops Q l a w→wpAny P .any ops Q l.length listed a w
 | [],k,listed,a,w,_,hB,h=>by
  simp only [jO,aSa,nK] at hB
  exact ⟨hB,h⟩
 | o :: l,k,listed,a,w,hl,hB,h=>by
  have h0:ops[k]?=some o:=by simpa using (hl 0).symm
  simp only [fB,aSa,aR,nK] at hB
  obtain ⟨hr,hB'⟩:=hB
  refine ⟨fun e=>(by rw [hr] at e;cases e),fun i hi=>?_⟩
  rw [hr] at hi
  simp only [List.mem_singleton] at hi
  subst hi
  have ih:=fun a w=>aLG (P:=P) (Q:=Q) l (i+1) (listed.setIfInBounds i true) a w (fun j=>by have:=hl (j+1);rw [oH] at this;rw [this];congr 1;omega) hB'
  unfold wpOp
  simp only [h0]
  unfold wpList at h
  split
  ·
   rename_i hw
   rw [bB hw] at h
   exact h.imp (Oper.wp_mono ih) id
  ·
   rename_i hw
   rw [aY hw] at h
   exact ih _ _ h
theorem aOQ {P:Program}{c:Ctx}{N:Nat}{ops:Array Oper}{id:Nat}{σ:St}{fr:Fr}{pre:Nat}{K:Fr→St→Prop}{Q:Exit→Act→World→Prop} (hm:P.follows .mixedOrders=true) (hB:aOP ops pre=true) (hok:∀ o∈ops.toList,aDF N o=true)
  (h:aqs P ops.toList (ops.toList.take pre) fr σ fun fr'=>lS true P ops.toList (ops.toList.drop pre) fr' σ K) {a:Act}{w:World} (hs:Sim c N a w fr σ) (hQ:∀ a w fr σ,K fr σ→Sim c N a w fr σ→Q .normal a w) :
  (Code.region id ops true).wp P Q a w:=by
 simp only [aOP,aR,bU] at hB
 obtain ⟨⟨⟨⟨hpre,hlex⟩,hseq⟩,hwt⟩,hli⟩:=hB
 have hw:∀ i j oj,i<pre→ops[j]?=some oj→pre≤j→qL ops ops.size i j=true:=by
  intro i j oj hi hj hp
  have hjs:j<ops.size:=(kF.1 hj).1
  have:=cI.1 hwt j (fE.2 hjs)
  simp only [eC,bU] at this
  rcases this with h | h
  ·
   omega
  ·
   exact cI.1 h i (fE.2 hi)
 have hl:(ops.toList.take pre).length=pre:=by simp;omega
 let QF:Array Bool→(Nat→AV)→Prop:=fun L F=>L=tH ops.size pre∧∃ fr',F=fr'.get∧lS true P ops.toList (ops.toList.drop pre) fr' σ K
 have hA:=aPC (P:=P) (ops:=ops) (σ:=σ) (pre:=pre) (QF:=QF) (K:=fun fr'=>lS true P ops.toList (ops.toList.drop pre) fr' σ K)
  (fun L F hq j hj=>by rw [hq.1];exact cI.1 hli j (fE.2 hj)) hw (fun fr' hk=>⟨rfl,fr',rfl,hk⟩) (ops.toList.take pre) 0 fr (by rw [hl];omega)
  (fun j hj=>by rw [hl] at hj;rw [eX hj];simp)
  (fun k o ho hl=>by simp [tH,Array.getElem?_replicate] at hl;split at hl <;> simp at hl) (by rw [hl];exact hlex) h
 rw [hl] at hA
 obtain ⟨g,hi,hf,hN,hd⟩:=hs
 obtain ⟨hi',st⟩:=hi.drew
 refine wp_region_any hm ?_
 have:=aD0 (P:=P) (c:=c) (N:=N) (m:=ops.size - pre) (Q:=Q) (fun i o ho=>hok o (by rw [← dS] at ho;exact dA ho)) (fun L F a w hq hs=>by
  obtain ⟨rfl,fr',rfl,hk⟩:=hq
  have hls:(ops.toList.drop pre).length=ops.size - pre:=by simp
  rw [← hls]
  exact aLG (ops.toList.drop pre) pre _ a w (fun j=>by rw [hO];simp) (by rw [hls];exact hseq)
   (aDy hQ _ fr' σ a w (fun o ho=>hok o (mF ho)) hk hs)) pre (tH ops.size 0) fr.get a { w with drawn:=w.drawn+1 } hA ⟨g,hi',fun d=>(hf d).stp st,hN,hd⟩
 rwa [show pre+(ops.size - pre)=ops.size by omega] at this

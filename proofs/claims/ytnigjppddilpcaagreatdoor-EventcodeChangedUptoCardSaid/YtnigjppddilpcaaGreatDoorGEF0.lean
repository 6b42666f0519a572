import Derived.Test.YtnigjppddilpcaaGreatDoorGETy
namespace Go.Proofs.YtnigjppddilpcaaGreatDoor
open Go Abs
set_option maxRecDepth 100000
set_option linter.unusedVariables false
set_option linter.unusedSimpArgs false
noncomputable def pQ (p0v:aD) (s4:(Int × Int)):Option (cD (Int × Int) Int) :=
 cond (decide (s4.2<((p0v.Keys).length:Int))) ((gR p0v.Keys s4.2).bind fun x6=>some (cD.next ((IntKind.wrap .i64 (s4.1+(IntKind.wrap .i64 (Int.tdiv ((x6).length:Int) (8:Int))))),(IntKind.wrap .i64 (s4.2+(1:Int)))))) (some (cD.out s4.1))
noncomputable def pR (aCw:aD→Option Int) (p0v:aD) (s13:(Int × Int)):Option (cD (Int × Int) Int) :=
 cond (decide (s13.2<((p0v.Items).length:Int))) ((gR p0v.Items s13.2).bind fun x15=>(aCw x15).bind fun x17=>some (cD.next ((IntKind.wrap .i64 (s13.1+x17)),(IntKind.wrap .i64 (s13.2+(1:Int)))))) (some (cD.out s13.1))
noncomputable def mK:Nat→aD→Option Int
 | 0,_=>none
 | n+1,p0v =>
  ((dO (pQ p0v) (((IntKind.wrap .i64 ((IntKind.wrap .i64 ((1:Int)+(IntKind.wrap .i64 (Int.tdiv ((p0v.Text).length:Int) (8:Int)))))+((p0v.Keys).length:Int))),(0:Int)))):Option Int).bind fun x1=>(((dO (pR (mK n) p0v) ((x1,(0:Int)))):Option Int).bind fun x10=>(some x10))
theorem aDo:∀ n:Nat,(∀ {p0v:aD}{res:Int},mK n p0v=some res→bR Tryz.prog 51 [.agg (AV.cs (dD p0v))] [] (ci res) []):=by
 intro n
 induction n with
 | zero=>exact fun {p0v res} h=>absurd h (by simp [mK])
 | succ n ih =>
  have ih_law23xsize:=@ih
  intro p0v res h
  rw [mK] at h
  refine cP (fn:=Tryz.f51) [0,1,2,3,5,7,18,19,20,21,31,32,33,34] (by kernel_rfl) Tryz.func51 r (by kernel_rfl) (by kernel_rfl)<|aJ<|gH (v:=.agg bI) (n:=0) (cs:=bI) (σ':=[bI]) r r r r r<|sI r<|aF (fr':=[(1,.box 0 0)]) r r<|aJ<|aQ r (bF qR r)<|aQ r (aP (v:=aS) nV r r r)<|aQ r (jT tT r)<|aQ r (aLT r r (by decide))<|aQ r (dR r r) ?_
  refine aQ r (bF mR r)<|aQ r (aP (v:=aL) nA r r r)<|aQ r (eX rZ (cZ r))<|aQ r (dR r r)<|sI r<|aF (fr':=[(1,.box 0 0),(3,aI)]) r r<|aN<|aJ<|aQ r (bF mR r)<|aQ r (aP (v:=aL) nA r r r)<|aQ r (eX rZ (cZ r))<|mI r ?_
  refine aF (fr':=[(1,.box 0 0),(3,aI),(18,aL),(19,aI),(20,aI)]) r r ?_
  obtain ⟨x1,hx1,h2⟩:=aE h
  refine fI iV (fun j3=>x1=j3) (fun (j3:Int)=>([(1,.box 0 0),(3,ci j3)]:Fr)) (fun (j3:Int)=>([[ci p0v.Kind,ci p0v.Int,.c (.str p0v.Text),.c (PV.ls 5 aZ p0v.Items),.c (PV.ls 1 fD p0v.Keys)]]:St)) ?_ ?_
  ·
   refine bK<|fB _ (fun (s4:(Int × Int))=>([(1,.box 0 0),(3,ci s4.1),(18,.c (PV.ls 1 fD p0v.Keys)),(19,ci ((p0v.Keys).length:Int)),(20,ci s4.2)]:Fr)) (fun (s4:(Int × Int))=>([[ci p0v.Kind,ci p0v.Int,.c (.str p0v.Text),.c (PV.ls 5 aZ p0v.Items),.c (PV.ls 1 fD p0v.Keys)]]:St)) hx1 (bJ [] 1 r r r r ⟨lr,lr,lr,lr,lr,trivial⟩ (cK r aC)) ?_
   intro s4 st4 hs4 ho4
   unfold pQ at hs4
   refine aJ<|aQ r (dU r r)<|aF (fr':=[(1,.box 0 0),(3,aI),(18,aL),(19,aI),(20,aI),(21,aB)]) r r<|aN<|cC hs4 r (fun hb5 h5=>?_) (fun hb5 h5=>?_)
   ·
    refine bA<|bT<|aN<|bK<|aN<|aT ?_
    obtain ⟨x6,hx6,h7⟩:=aE h5
    refine aQ r (jS (cs:=[PV.str _]) uW (cZ r) r hx6 r)<|aQ r (fV (p:=PV.str _) nV r r)<|sS r<|aF (fr':=[(1,.box 0 0),(3,aI),(5,aS),(18,aL),(19,aI),(20,aI)]) r r<|aT<|mI r<|mS r<|aQ r (jT tT r)<|aQ r (aLT r r (by decide))<|aQ r (dR r r)<|sI r<|cI (fr':=[(1,.box 0 0),(3,aI),(5,aS),(18,aL),(19,aI),(20,aI)]) r<|cA ?_
    exact bT<|aT<|aQ r (dR r r)<|mI r<|cI (fr':=[(1,.box 0 0),(3,aI),(5,aS),(18,aL),(19,aI),(20,aI)]) r<|xG _ (sy h7) (bJ [] 1 r r r r ⟨lr,lr,lr,lr,lr,trivial⟩ (cK r aC))
   ·
    refine fJ<|bY<|bY<|eC ?_
    have h8:=dN h5 ho4
    exact lF _ (sy h8) (bJ [] 1 r r r r ⟨lr,lr,trivial⟩ (cK r aC))
  ·
   intro j3 hj9
   subst hj9
   refine bT<|aN<|aJ<|aQ r (bF gG r)<|aQ r (aP (v:=aL) nR r r r)<|aQ r (eX sJ (cZ r))<|mI r<|aF (fr':=[(3,aI),(31,aL),(32,aI),(33,aI)]) r r ?_
   obtain ⟨x10,hx10,h11⟩:=aE h2
   refine fI iV (fun j12=>x10=j12) (fun (j12:Int)=>([(3,ci j12)]:Fr)) (fun (j12:Int)=>([[ci p0v.Kind,ci p0v.Int,.c (.str p0v.Text),.c (PV.ls 5 aZ p0v.Items),.c (PV.ls 1 fD p0v.Keys)]]:St)) ?_ ?_
   ·
    refine bK<|fB _ (fun (s13:(Int × Int))=>([(3,ci s13.1),(31,.c (PV.ls 5 aZ p0v.Items)),(32,ci ((p0v.Items).length:Int)),(33,ci s13.2)]:Fr)) (fun (s13:(Int × Int))=>([[ci p0v.Kind,ci p0v.Int,.c (.str p0v.Text),.c (PV.ls 5 aZ p0v.Items),.c (PV.ls 1 fD p0v.Keys)]]:St)) hx10 (bJ [] 1 r r r r ⟨lr,lr,lr,lr,trivial⟩ (cK r aC)) ?_
    intro s13 st13 hs13 ho13
    unfold pR at hs13
    refine aJ<|aQ r (dU r r)<|aF (fr':=[(3,aI),(31,aL),(32,aI),(33,aI),(34,aB)]) r r<|aN<|cC hs13 r (fun hb14 h14=>?_) (fun hb14 h14=>?_)
    ·
     refine bA<|bT<|aN<|bK<|aN<|aT ?_
     obtain ⟨x15,hx15,h16⟩:=aE h14
     refine aQ r (jS (cs:=[PV.int _ _,PV.int _ _,PV.str _,PV.ls _ _ _,PV.ls _ _ _]) sK (cZ r) r hx15 (dA _))<|aQ r (iL (us:=[PV.int _ _,PV.int _ _,PV.str _,PV.ls _ _ _,PV.ls _ _ _]) fQ r r r)<|fZ (n:=1) (cs:=bH) (σ':=[bI,bH]) aAm r r r<|bO (v:=.agg bI) (us:=bI) (cs:=bH) (σ':=[bI,bI]) r fQ r r r r r r r r<|aF (fr':=[(3,aI),(7,.box 1 0),(31,aL),(32,aI),(33,aI)]) r r<|aT<|mI r<|aQ r (dF (us:=bI) fQ r r r r) ?_
     obtain ⟨x17,hx17,h18⟩:=aE h16
     exact jZ (bG (v:=aI) r (ih_law23xsize hx17) ⟨(bM r ⟨r,r,r,r,r,trivial⟩),trivial⟩ r r r)<|aQ r (dR r r)<|sI r<|cI (fr':=[(3,aI),(7,.box 1 0),(31,aL),(32,aI),(33,aI)]) r<|cA<|bT<|aT<|aQ r (dR r r)<|mI r<|cI (fr':=[(3,aI),(7,.box 1 0),(31,aL),(32,aI),(33,aI)]) r<|xG _ (sy h18) (bJ [] 1 r r r r ⟨lr,lr,lr,lr,trivial⟩ (cK r aC))
    ·
     refine fJ<|bY<|bY<|eC ?_
     have h19:=dN h14 ho13
     exact lF _ (sy h19) (bJ [] 1 r r r r ⟨lr,trivial⟩ (cK r aC))
   ·
    intro j12 hj20
    subst hj20
    refine bT<|aJ<|mI r<|sI r<|aF (fr':=[(2,aI)]) r r<|bE ?_
    obtain rfl:=sy h11
    exact bD (rs':=[.tmp 2]) r<|bL (v:=aI) r<|bC<|aR [] r r r lr aC
noncomputable def yO (p0v:aD):Option Int:=lim fun n=>mK n p0v
theorem aET {p0v:aD}{res:Int} (h:yO p0v=some res):bR Tryz.prog 51 [.agg (AV.cs (dD p0v))] [] (ci res) []:=by
 obtain ⟨n,hn⟩:=nM h
 exact (aDo n) hn
noncomputable def oN (x8:aV) (s19:Int):Option (cD Int (Fl (cD Int (Fl Bool Unit)) Unit)) :=
 cond (decide (s19<((x8.Opts.Fatal).length:Int))) ((gR x8.Opts.Fatal s19).bind fun x21=>cond (decide ((300:Int)<((x21).length:Int))) (some (cD.out (Fl.done (cD.out (Fl.done true))))) (some (cD.next (IntKind.wrap .i64 (s19+(1:Int)))))) (some (cD.out (Fl.go ())))
noncomputable def oM (p0l:(List aV)) (s6:Int):Option (cD Int (Fl Bool Unit)) :=
 cond (decide (s6<((p0l).length:Int))) ((gR p0l s6).bind fun x8=>(gd ((cond (decide ((500:Int)<(IntKind.wrap .i64 ((IntKind.wrap .i64 (((x8.Name).length:Int)+((x8.Key).length:Int)))+((x8.Opts.Queue).length:Int))))) true (decide ((70:Int)<((x8.Opts.Fatal).length:Int))))==false) (yO x8.Data)).bind fun x10=>cond (cond (cond (decide ((500:Int)<(IntKind.wrap .i64 ((IntKind.wrap .i64 (((x8.Name).length:Int)+((x8.Key).length:Int)))+((x8.Opts.Queue).length:Int))))) true (decide ((70:Int)<((x8.Opts.Fatal).length:Int)))) true (decide ((200:Int)<x10))) (some (cD.out (Fl.done true))) (((dO (oN x8) ((0:Int))):Option (Fl (cD Int (Fl Bool Unit)) Unit)).bind fun x16=>Fl.next x16 (fun j18=>(some (cD.next (IntKind.wrap .i64 (s6+(1:Int)))))))) (some (cD.out (Fl.go ())))
noncomputable def oA (p0l:(List aV)):Option Bool :=
 cond (decide ((40:Int)<((p0l).length:Int))) (some true) (((dO (oM p0l) ((0:Int))):Option (Fl Bool Unit)).bind fun x3=>Fl.next x3 (fun j5=>(some false)))
theorem aDs {p0l:(List aV)}{res:Bool} (h:oA p0l=some res):bR Tryz.prog 15 [.c (PV.ls 24 bZ p0l)] [] (.c (.bool res)) []:=by
 unfold oA at h
 refine cP (fn:=Tryz.f15) [0,2,4,6,9,10,11,12,13,41,44,45,46,47,52] (by kernel_rfl) Tryz.func15 r (by kernel_rfl) (by kernel_rfl)<|aJ<|sB r<|aF (fr':=[(0,aL)]) r r<|aN<|aJ<|mL r<|aQ r (eX aF6 (cZ r))<|aQ r (nO r r)<|aF (fr':=[(0,aL),(9,aB)]) r r<|cC h r (fun hb1 h1=>?_) (fun hb1 h1=>?_)
 ·
  refine aJ<|sB r<|aF (fr':=[(2,aB)]) r r<|bE<|aK ?_
  obtain rfl:=sy h1
  exact bD (rs':=[.tmp 2]) r<|bL (v:=aB) r<|bC<|aR [] r r r lr aC
 ·
  refine bA<|bT<|aN<|aJ<|mL r<|aQ r (eX aF6 (cZ r))<|mI r<|aF (fr':=[(10,aL),(11,aI),(12,aI)]) r r ?_
  obtain ⟨x3,hx3,h4⟩:=aE h1
  refine fI iV (fun j5=>x3=Fl.go j5) (fun (j5:Unit)=>([]:Fr)) (fun (j5:Unit)=>([]:St)) ?_ ?_
  ·
   refine bK<|fB _ (fun (s6:Int)=>([(10,.c (PV.ls 24 bZ p0l)),(11,ci ((p0l).length:Int)),(12,ci s6)]:Fr)) (fun (s6:Int)=>([]:St)) hx3 (bJ [] 0 r r r r ⟨lr,lr,lr,trivial⟩ aC) ?_
   intro s6 st6 hs6 ho6
   unfold oM at hs6
   refine aJ<|aQ r (dU r r)<|aF (fr':=[(10,aL),(11,aI),(12,aI),(13,aB)]) r r<|aN<|cC hs6 r (fun hb7 h7=>?_) (fun hb7 h7=>?_)
   ·
    refine bA<|bT<|aN<|bK<|aN<|aT ?_
    obtain ⟨x8,hx8,h9⟩:=aE h7
    refine aQ r (jS (cs:=[PV.int _ _,PV.int _ _,PV.int _ _,PV.int _ _,PV.int _ _,PV.int _ _,PV.int _ _,PV.str _,PV.str _,PV.int _ _,PV.int _ _,PV.str _,PV.ls _ _ _,PV.ls _ _ _,PV.str _,PV.int _ _,PV.int _ _,PV.int _ _,PV.int _ _,PV.int _ _,PV.int _ _,PV.int _ _,PV.int _ _,PV.ls _ _ _]) aHc (cZ r) r hx8 r)<|aQ r (iL (us:=[PV.int _ _,PV.int _ _,PV.int _ _,PV.int _ _,PV.int _ _,PV.int _ _,PV.int _ _,PV.str _,PV.str _,PV.int _ _,PV.int _ _,PV.str _,PV.ls _ _ _,PV.ls _ _ _,PV.str _,PV.int _ _,PV.int _ _,PV.int _ _,PV.int _ _,PV.int _ _,PV.int _ _,PV.int _ _,PV.int _ _,PV.ls _ _ _]) vO r r r)<|fZ (n:=0) (cs:=aA) (σ':=[aA]) aIQ r r r<|bO (v:=.agg aH) (us:=aH) (cs:=aA) (σ':=[aH]) r vO r r r r r r r r<|aF (fr':=[(4,.box 0 0),(10,aL),(11,aI),(12,aI)]) r r<|aN<|aJ<|aQ r (bF rX r)<|aQ r (aP (v:=aS) nV r r r)<|aQ r (jT tT r)<|aQ r (bF rY r)<|aQ r (aP (v:=aS) nV r r r) ?_
    refine aQ r (jT tT r)<|aQ r (dR r r)<|aQ r (bF rB r)<|aQ r (bF uR r)<|aQ r (aP (v:=aS) nV r r r)<|aQ r (jT tT r)<|aQ r (dR r r)<|aQ r (nO r r)<|mB r<|og r r r (fun hc=>(bF rB r))<|og r r r (fun hc=>(bF mT (gx r hc)))<|og r r r (fun hc=>(aP (v:=aL) nA (gx r hc) r r))<|og r r r (fun hc=>(eX rZ (cZ (gx r hc)))) ?_
    refine og r r r (fun hc=>(nO (gx r hc) r))<|aQ r (cB r r r (fun e=>fG e))<|mB r<|og r r r (fun hc=>(bF uT r))<|og r r r (fun hc=>(dF (us:=bI) fQ (gx r hc) r r r)) ?_
    obtain ⟨x10,hx10,h11⟩:=aE h9
    refine vQ r r (fun hc=>bG (v:=aI) r (aET (cV hx10 hc)) ⟨(fK (gx r hc) (bM r ⟨r,r,r,r,r,trivial⟩)),trivial⟩ (fT (by repeat (first | exact eK | refine aY r ?_ | refine aY (rI r) ?_ | refine aY rH ?_))) r r) ?_
    refine og r r r (fun hc=>(nO (gx r hc) r))<|aQ r (cB r r r (fun e=>fG e))<|aF (fr':=[(4,.box 0 0),(10,aL),(11,aI),(12,aI),(41,aB)]) r r<|cC h11 r (fun hb12 h12=>?_) (fun hb12 h12=>?_)
    ·
     refine aJ<|sB r<|aF (fr':=[(2,aB)]) r r<|bE<|aK<|bB<|aK<|aK<|bB<|aK<|aK ?_
     have h13:=dN h12 ho6
     have h14:=eA h13 h4
     obtain rfl:=sy h14
     exact bD (rs':=[.tmp 2]) r<|bL (v:=aB) r<|bC<|aR [] r r r lr aC
    ·
     refine bA<|bT<|aJ<|aQ r (bF rB r)<|aQ r (bF mT r)<|aQ r (aP (v:=aL) nA r r r)<|aQ r (eX rZ (cZ r))<|mI r<|aF (fr':=[(10,aL),(11,aI),(12,aI),(44,aL),(45,aI),(46,aI)]) r r ?_
     obtain ⟨x16,hx16,h17⟩:=aE h12
     refine fI (aM1 iV) (fun j18=>x16=Fl.go j18) (fun (j18:Unit)=>([(10,.c (PV.ls 24 bZ p0l)),(11,ci ((p0l).length:Int)),(12,ci s6)]:Fr)) (fun (j18:Unit)=>([[ci x8.ID,ci x8.Kind,ci x8.Time,ci x8.Seq,ci x8.Ref,ci x8.N,ci x8.Code,.c (.str x8.Name),.c (.str x8.Key),ci x8.Data.Kind,ci x8.Data.Int,.c (.str x8.Data.Text),.c (PV.ls 5 aZ x8.Data.Items),.c (PV.ls 1 fD x8.Data.Keys),.c (.str x8.Opts.Queue),ci x8.Opts.ToStart,ci x8.Opts.ToClose,ci x8.Opts.Total,ci x8.Opts.Beat,ci x8.Opts.First,ci x8.Opts.Coef,ci x8.Opts.Most,ci x8.Opts.Attempts,.c (PV.ls 1 fD x8.Opts.Fatal)]]:St)) ?_ ?_
     ·
      refine bK<|fB _ (fun (s19:Int)=>([(10,.c (PV.ls 24 bZ p0l)),(11,ci ((p0l).length:Int)),(12,ci s6),(44,.c (PV.ls 1 fD x8.Opts.Fatal)),(45,ci ((x8.Opts.Fatal).length:Int)),(46,ci s19)]:Fr)) (fun (s19:Int)=>([[ci x8.ID,ci x8.Kind,ci x8.Time,ci x8.Seq,ci x8.Ref,ci x8.N,ci x8.Code,.c (.str x8.Name),.c (.str x8.Key),ci x8.Data.Kind,ci x8.Data.Int,.c (.str x8.Data.Text),.c (PV.ls 5 aZ x8.Data.Items),.c (PV.ls 1 fD x8.Data.Keys),.c (.str x8.Opts.Queue),ci x8.Opts.ToStart,ci x8.Opts.ToClose,ci x8.Opts.Total,ci x8.Opts.Beat,ci x8.Opts.First,ci x8.Opts.Coef,ci x8.Opts.Most,ci x8.Opts.Attempts,.c (PV.ls 1 fD x8.Opts.Fatal)]]:St)) hx16 (bJ [] 1 r r r r ⟨lr,lr,lr,lr,lr,lr,trivial⟩ (cK r aC)) ?_
      intro s19 st19 hs19 ho19
      unfold oN at hs19
      refine aJ<|aQ r (dU r r)<|aF (fr':=[(10,aL),(11,aI),(12,aI),(44,aL),(45,aI),(46,aI),(47,aB)]) r r<|aN<|cC hs19 r (fun hb20 h20=>?_) (fun hb20 h20=>?_)
      ·
       refine bA<|bT<|aN<|bK<|aN<|aT ?_
       obtain ⟨x21,hx21,h22⟩:=aE h20
       refine aQ r (jS (cs:=[PV.str _]) uW (cZ r) r hx21 r)<|aQ r (fV (p:=PV.str _) nV r r)<|sS r<|aF (fr':=[(6,aS),(10,aL),(11,aI),(12,aI),(44,aL),(45,aI),(46,aI)]) r r<|aJ<|mS r<|aQ r (jT tT r)<|aQ r (nO r r)<|aF (fr':=[(10,aL),(11,aI),(12,aI),(44,aL),(45,aI),(46,aI),(52,aB)]) r r<|cC h22 r (fun hb23 h23=>?_) (fun hb23 h23=>?_)
       ·
        refine aJ<|sB r<|aF (fr':=[(2,aB)]) r r<|bE<|bB<|aK<|aK<|bB<|aK<|bB<|aK<|aK ?_
        refine bB<|aK<|aK ?_
        have h24:=dN h23 ho19
        have h25:=eA h24 h17
        have h26:=dN h25 ho6
        have h27:=eA h26 h4
        obtain rfl:=sy h27
        exact bD (rs':=[.tmp 2]) r<|bL (v:=aB) r<|bC<|aR [] r r r lr aC
       ·
        exact bA<|cA<|bT<|aT<|aQ r (dR r r)<|mI r<|cI (fr':=[(10,aL),(11,aI),(12,aI),(44,aL),(45,aI),(46,aI),(52,aB)]) r<|xG _ (sy h23) (bJ [] 1 r r r r ⟨lr,lr,lr,lr,lr,lr,trivial⟩ (cK r aC))
      ·
       refine fJ<|bY<|bY<|eC ?_
       have h29:=dN h20 ho19
       exact lF _ (sy h29) (bJ [] 1 r r r r ⟨lr,lr,lr,trivial⟩ (cK r aC))
     ·
      intro j18 hj30
      have h30:=kN hj30 h17
      exact cA<|bT<|aT<|aQ r (dR r r)<|mI r<|cI (fr':=[(10,aL),(11,aI),(12,aI)]) r<|xG _ (sy h30) (bJ [] 0 r r r r ⟨lr,lr,lr,trivial⟩ aC)
   ·
    refine fJ<|bY<|bY<|eC ?_
    have h31:=dN h7 ho6
    exact lF _ (sy h31) (bJ [] 0 r r r r trivial aC)
  ·
   intro j5 hj32
   have h32:=kN hj32 h4
   refine bT<|aJ<|sB r<|aF (fr':=[(2,aB)]) r r<|bE ?_
   obtain rfl:=sy h32
   exact bD (rs':=[.tmp 2]) r<|bL (v:=aB) r<|bC<|aR [] r r r lr aC
noncomputable def eV (p0s:(List UInt8)):Option (List UInt8) :=
 app 1 ([]:List UInt8) p0s
theorem hG {p0s:(List UInt8)}{res:(List UInt8)} (h:eV p0s=some res):bR Tryz.prog 70 [.c (PV.ls 1 eD p0s)] [] (AV.os 0 1 eD res) []:=by
 unfold eV at h
 refine cP (fn:=Tryz.f70) [0,2,4] (by kernel_rfl) Tryz.func70 r (by kernel_rfl) (by kernel_rfl) ?_
 obtain ⟨hm,he⟩:=zM h
 rw [List.nil_append] at he
 subst he
 refine aJ<|aQ r (zZ (v:=.nil) r)<|cI (fr':=[(0,.c (PV.ls _ _ _)),(2,.nil)]) r<|bT<|aN<|aJ<|aQ r (aU (v:=.c (PV.ls _ _ _)) r)<|aMn (row:=eD) yW (cZ r) (fun b hb=>?_)
 refine cI (fr':=[(0,.c (PV.ls _ _ _)),(2,.nil),(4,.c (.bool _))]) r<|bT<|aER b r (fun e=>?_) (fun e=>?_)
 ·
  rw [hb e]
  exact aJ<|aQ r (zZ (v:=.nil) r)<|cI (fr':=[(0,.c (PV.ls _ _ _)),(2,.nil),(4,.c (.bool _))]) r<|bT<|bE<|aK<|bD (rs':=[.tmp 2]) r<|bL (v:=.nil) r<|bC<|aR [] r r r (tE r) aC
 ·
  refine bA<|bT<|aJ<|rP (row:=eD) (xs:=([]:List UInt8)) (rows:=[]) (σ':=[]) [] uV r r r mD r r<|aQ r (aU (v:=.c (PV.ls _ _ _)) r)<|aBd (row:=eD) uV r yW r (cZ r) (fun _=>r) h<|aQ r (zZ (v:=AV.os _ _ _ _) r)<|cI (fr':=[(0,.c (PV.ls _ _ _)),(2,AV.os _ _ _ _),(4,.c (.bool _))]) r<|bT<|bE<|bD (rs':=[.tmp 2]) r<|bL (v:=AV.os _ _ _ _) r ?_
  exact bC<|aR [112] r r r lr aC
noncomputable def pE  (s6:((List UInt8) × Int)):Option (cD ((List UInt8) × Int) ((List UInt8) × Int)) :=
 cond (decide ((128:Int)≤s6.2)) ((jP (eT .or .u8 (IntKind.wrap .u8 s6.2) (128:Int))).bind fun x8=>(app 1 s6.1 ([x8]:List UInt8)).bind fun x10=>some (cD.next (x10,(Int.fdiv s6.2 (2 ^ (min (Int.toNat (7:Int)) (IntKind.bits .u64))))))) (some (cD.out (s6.1,s6.2)))
noncomputable def eP (p0b:(List UInt8)) (p1n:Int):Option (List UInt8) :=
 (eV p0b).bind fun x1=>((dO (pE) ((x1,(eT .xor .u64 (IntKind.wrap .u64 ((IntKind.wrap .u64 p1n)*2 ^ (min (Int.toNat (1:Int)) (IntKind.bits .u64)))) (IntKind.wrap .u64 (Int.fdiv p1n (2 ^ (min (Int.toNat (63:Int)) (IntKind.bits .i64))))))))):Option ((List UInt8) × Int)).bind fun x3=>((jP (IntKind.wrap .u8 x3.2)).bind fun x14=>(app 1 x3.1 ([x14]:List UInt8)).bind fun x16=>some x16)
theorem eY {p0b:(List UInt8)}{p1n:Int}{res:(List UInt8)} (h:eP p0b p1n=some res):bR Tryz.prog 53 [.c (PV.ls 1 eD p0b),ci p1n] [] (AV.os 0 1 eD res) []:=by
 unfold eP at h
 refine cP (fn:=Tryz.f53) [0,1,4,5,6,17] (by kernel_rfl) Tryz.func53 r (by kernel_rfl) (by kernel_rfl)<|aJ<|sV (v:=AV.nil) r<|aF (fr':=[(0,aL),(1,aI)]) r r<|aJ<|mL r ?_
 obtain ⟨x1,hx1,h2⟩:=aE h
 refine jZ (bG (v:=aO) r (hG hx1) ⟨lr,trivial⟩ r r r)<|sV (v:=aO) r<|aF (fr':=[(1,aI),(5,aO)]) r r<|aJ<|mI r<|aQ r (pL tk3 aCR r)<|aQ r (aLU r r (by decide))<|mI r<|aQ r (aCs r r (by decide))<|aQ r (pL tk3 aCR r)<|aQ r (aHE r r)<|sI r ?_
 refine aF (fr':=[(5,aO),(6,aI)]) r r ?_
 obtain ⟨x3,hx3,h4⟩:=aE h2
 refine jX (fun j5=>x3=j5) (fun (j5:((List UInt8) × Int))=>([(5,AV.os 0 1 eD j5.1),(6,.c (.int .u64 j5.2))]:Fr)) (fun (j5:((List UInt8) × Int))=>([]:St)) ?_ ?_
 ·
  refine bK<|fB _ (fun (s6:((List UInt8) × Int))=>([(5,AV.os 0 1 eD s6.1),(6,.c (.int .u64 s6.2))]:Fr)) (fun (s6:((List UInt8) × Int))=>([]:St)) hx3 (bJ [128] 0 r r r r ⟨lr,lr,trivial⟩ aC) ?_
  intro s6 st6 hs6 ho6
  unfold pE at hs6
  refine aN<|aJ<|mI r<|aQ r (qJ r r)<|aF (fr':=[(5,aO),(6,aI),(17,aB)]) r r<|cC hs6 r (fun hb7 h7=>?_) (fun hb7 h7=>?_)
  ·
   refine bA<|bT<|bK<|aJ<|mV (v:=aO) r<|mI r<|aQ r (pL aCR tk5 r)<|aQ r (aNe r r) ?_
   obtain ⟨x8,hx8,h9⟩:=aE h7
   refine rP (row:=eD) (xs:=([x8]:List UInt8)) (rows:=[[_]]) (σ':=[]) [0] uV r r r (fR (aEl hx8) mD) r r ?_
   obtain ⟨x10,hx10,h11⟩:=aE h9
   exact aBd (row:=eD) uV r yW r (qF r) (fun _=>r) hx10<|sV (v:=aO) r<|aF (fr':=[(5,aO),(6,aI)]) r r<|aT<|mI r<|aQ r (aCs r r (by decide))<|sI r<|cI (fr':=[(5,aO),(6,aI)]) r<|cA<|xG _ (sy h11) (bJ [368] 0 r r r r ⟨lr,lr,trivial⟩ aC)
  ·
   refine fJ<|bY<|bY<|eC ?_
   have h12:=dN h7 ho6
   exact lF _ (sy h12) (bJ [0] 0 r r r r ⟨lr,lr,trivial⟩ aC)
 ·
  intro j5 hj13
  subst hj13
  refine aJ<|mV (v:=aO) r<|mI r<|aQ r (pL aCR tk5 r) ?_
  obtain ⟨x14,hx14,h15⟩:=aE h4
  refine rP (row:=eD) (xs:=([x14]:List UInt8)) (rows:=[[_]]) (σ':=[]) [0] uV r r r (fR (aEl hx14) mD) r r ?_
  obtain ⟨x16,hx16,h17⟩:=aE h15
  refine aBd (row:=eD) uV r yW r (qF r) (fun _=>r) hx16<|sV (v:=aO) r<|aF (fr':=[(4,aO)]) r r<|bE ?_
  obtain rfl:=sy h17
  exact bD (rs':=[.tmp 4]) r<|bL (v:=aO) r<|bC<|aR [480] r r r lr aC
noncomputable def gM (p0b:(List UInt8)) (p1s:(List UInt8)):Option (List UInt8) :=
 (eP p0b ((p1s).length:Int)).bind fun x1=>(app 1 x1 p1s).bind fun x3=>some x3
theorem kP {p0b:(List UInt8)}{p1s:(List UInt8)}{res:(List UInt8)} (h:gM p0b p1s=some res):bR Tryz.prog 54 [.c (PV.ls 1 eD p0b),.c (.str p1s)] [] (AV.os 0 1 eD res) []:=by
 unfold gM at h
 refine cP (fn:=Tryz.f54) [0,1,4] (by kernel_rfl) Tryz.func54 r (by kernel_rfl) (by kernel_rfl)<|aJ<|sV (v:=AV.nil) r<|aF (fr':=[(0,aL),(1,aS)]) r r<|aJ<|mL r<|mS r<|aQ r (jT tT r) ?_
 obtain ⟨x1,hx1,h2⟩:=aE h
 refine jZ (bG (v:=aO) r (eY hx1) ⟨lr,lr,trivial⟩ r r r)<|mS r ?_
 obtain ⟨x3,hx3,h4⟩:=aE h2
 refine aMk uV r tT r r hx3<|sV (v:=aO) r<|aF (fr':=[(4,aO)]) r r<|bE ?_
 obtain rfl:=sy h4
 exact bD (rs':=[.tmp 4]) r<|bL (v:=aO) r<|bC<|aR [160] r r r lr aC
noncomputable def lB (p0l:(List (List UInt8))) (s4:Int):Option (cD Int (Fl Bool Unit)) :=
 cond (decide (s4<((p0l).length:Int))) ((gR p0l (IntKind.wrap .i64 (s4 - (1:Int)))).bind fun x6=>(gR p0l s4).bind fun x8=>cond (!Op.bytesLess x6 x8) (some (cD.out (Fl.done false))) (some (cD.next (IntKind.wrap .i64 (s4+(1:Int)))))) (some (cD.out (Fl.go ())))
noncomputable def lL (p0l:(List (List UInt8))):Option Bool :=
 ((dO (lB p0l) ((1:Int))):Option (Fl Bool Unit)).bind fun x1=>Fl.next x1 (fun j3=>(some true))
theorem aAv {p0l:(List (List UInt8))}{res:Bool} (h:lL p0l=some res):bR Tryz.prog 175 [.c (PV.ls 1 fD p0l)] [] (.c (.bool res)) []:=by
 unfold lL at h
 refine cP (fn:=Tryz.f175) [0,2,3,7,19] (by kernel_rfl) Tryz.func175 r (by kernel_rfl) (by kernel_rfl)<|aJ<|sB r<|aF (fr':=[(0,aL)]) r r<|aN<|aJ<|sI r<|aF (fr':=[(0,aL),(3,aI)]) r r ?_
 obtain ⟨x1,hx1,h2⟩:=aE h
 refine fI iV (fun j3=>x1=Fl.go j3) (fun (j3:Unit)=>([]:Fr)) (fun (j3:Unit)=>([]:St)) ?_ ?_
 ·
  refine bK<|fB _ (fun (s4:Int)=>([(0,.c (PV.ls 1 fD p0l)),(3,ci s4)]:Fr)) (fun (s4:Int)=>([]:St)) hx1 (bJ [] 0 r r r r ⟨lr,lr,trivial⟩ aC) ?_
  intro s4 st4 hs4 ho4
  unfold lB at hs4
  refine aN<|aJ<|mI r<|mL r<|aQ r (eX rZ (cZ r))<|aQ r (dU r r)<|aF (fr':=[(0,aL),(3,aI),(7,aB)]) r r<|cC hs4 r (fun hb5 h5=>?_) (fun hb5 h5=>?_)
  ·
   refine bA<|bT<|aN<|bK<|aN<|gP [.q 0,.q 1,.q 2,.q 3,.q 4,.q 5,.q 6,.q 7,.q 8,.q 9] [(some 10,[0]),(some 11,[3]),(some 12,[11]),(some 13,[10,12]),(some 14,[13]),(some 15,[0]),(some 16,[3]),(some 17,[15,16]),(some 18,[17]),(some 19,[14,18])] [0,0,2,7,15,0,0,96,224,511] (by kernel_rfl)<|dq r r (aU (v:=aL) r)<|dq r r (aU (v:=aI) r)<|dq r r (aHD r r) ?_
   obtain ⟨x6,hx6,h7⟩:=aE h5
   refine dq r r (jS (cs:=[PV.str _]) uW (cZ r) r hx6 r)<|dq r r (fV (p:=PV.str _) nV r r)<|dq r r (aU (v:=aL) r)<|dq r r (aU (v:=aI) r) ?_
   obtain ⟨x8,hx8,h9⟩:=aE h7
   refine dq r r (jS (cs:=[PV.str _]) uW (cZ r) r hx8 r)<|dq r r (fV (p:=PV.str _) nV r r)<|dq r r (aMv r r)<|tB (fr':=[(0,aL),(3,aI),(19,aB)]) r r<|cC h9 r (fun hb10 h10=>?_) (fun hb10 h10=>?_)
   ·
    refine aJ<|sB r<|aF (fr':=[(2,aB)]) r r<|bE<|bB<|aK<|aK<|bB<|aK<|aK ?_
    have h11:=dN h10 ho4
    have h12:=eA h11 h2
    obtain rfl:=sy h12
    exact bD (rs':=[.tmp 2]) r<|bL (v:=aB) r<|bC<|aR [] r r r lr aC
   ·
    exact bA<|cA<|bT<|aT<|mI r<|aQ r (dR r r)<|sI r<|cI (fr':=[(0,aL),(3,aI),(19,aB)]) r<|xG _ (sy h10) (bJ [] 0 r r r r ⟨lr,lr,trivial⟩ aC)
  ·
   refine fJ<|bY<|bY<|eC ?_
   have h14:=dN h5 ho4
   exact lF _ (sy h14) (bJ [] 0 r r r r trivial aC)
 ·
  intro j3 hj15
  have h15:=kN hj15 h2
  refine bT<|aJ<|sB r<|aF (fr':=[(2,aB)]) r r<|bE ?_
  obtain rfl:=sy h15
  exact bD (rs':=[.tmp 2]) r<|bL (v:=aB) r<|bC<|aR [] r r r lr aC
noncomputable def cW (yR:aD→Bool→Option Bool) (p0s:(List aD)) (fH:Bool) (s4:Int):Option (cD Int (Fl Int Unit)) :=
 cond (decide (s4<((p0s).length:Int))) ((gR p0s s4).bind fun x6=>(yR x6 fH).bind fun x8=>cond x8 (some (cD.out (Fl.done s4))) (some (cD.next (IntKind.wrap .i64 (s4+(1:Int)))))) (some (cD.out (Fl.go ())))
mutual
noncomputable def cH:Nat→(List aD)→Bool→Option Bool
 | 0,_,_=>none
 | n+1,p0s,fH =>
  ((dB n) p0s fH).bind fun x1=>some (decide ((0:Int)≤x1))
noncomputable def dB:Nat→(List aD)→Bool→Option Int
 | 0,_,_=>none
 | n+1,p0s,fH =>
  ((dO (cW (jG n) p0s fH) ((0:Int))):Option (Fl Int Unit)).bind fun x1=>Fl.next x1 (fun j3=>(some (-1:Int)))
noncomputable def jV:Nat→aD→Bool→Option Bool
 | 0,_,_=>none
 | n+1,p0C,p1o =>
  ((cond (decide (p0C.Kind=(0:Int))) (some (Fl.done (cond (cond (cond (!(!decide (p0C.Int=(0:Int)))) (!(!decide (p0C.Text=([]:List UInt8)))) false) (!(decide ((0:Int)<((p0C.Items).length:Int)))) false) (!(decide ((0:Int)<((p0C.Keys).length:Int)))) false))) (cond (decide (p0C.Kind=(1:Int))) (some (Fl.done (cond (cond (cond (cond (decide (p0C.Int=(0:Int))) true (decide (p0C.Int=(1:Int)))) (!(!decide (p0C.Text=([]:List UInt8)))) false) (!(decide ((0:Int)<((p0C.Items).length:Int)))) false) (!(decide ((0:Int)<((p0C.Keys).length:Int)))) false))) (cond (decide (p0C.Kind=(2:Int))) (some (Fl.done (cond (cond (!(!decide (p0C.Text=([]:List UInt8)))) (!(decide ((0:Int)<((p0C.Items).length:Int)))) false) (!(decide ((0:Int)<((p0C.Keys).length:Int)))) false))) (cond (decide (p0C.Kind=(6:Int))) (some (Fl.done (cond (cond (cond (cond p1o (decide ((0:Int)≤p0C.Int)) false) (!(!decide (p0C.Text=([]:List UInt8)))) false) (!(decide ((0:Int)<((p0C.Items).length:Int)))) false) (!(decide ((0:Int)<((p0C.Keys).length:Int)))) false))) (cond (decide (p0C.Kind=(3:Int))) (some (Fl.done (cond (cond (!(!decide (p0C.Int=(0:Int)))) (!(decide ((0:Int)<((p0C.Items).length:Int)))) false) (!(decide ((0:Int)<((p0C.Keys).length:Int)))) false))) (cond (decide (p0C.Kind=(4:Int))) (cond (cond (cond (!decide (p0C.Int=(0:Int))) true (!decide (p0C.Text=([]:List UInt8)))) true (decide ((0:Int)<((p0C.Keys).length:Int)))) (some (Fl.done false)) (some (Fl.go ()))) (cond (decide (p0C.Kind=(5:Int))) ((gd ((cond (cond (!decide (p0C.Int=(0:Int))) true (!decide (p0C.Text=([]:List UInt8)))) true (!decide (((p0C.Keys).length:Int)=((p0C.Items).length:Int))))==false) (lL p0C.Keys)).bind fun x24=>cond (cond (cond (cond (!decide (p0C.Int=(0:Int))) true (!decide (p0C.Text=([]:List UInt8)))) true (!decide (((p0C.Keys).length:Int)=((p0C.Items).length:Int)))) true (!x24)) (some (Fl.done false)) (some (Fl.go ()))) (some (Fl.done false))))))))):Option (Fl Bool Unit)).bind fun x1=>Fl.next x1 (fun j3=>(((cH n) p0C.Items p1o).bind fun x32=>some (!x32)))
noncomputable def jG:Nat→aD→Bool→Option Bool
 | 0,_,_=>none
 | n+1,p0x,fH =>
  ((jV n) p0x fH).bind fun x1=>some (!x1)
end
theorem hF:∀ n:Nat,(∀ {p0s:(List aD)}{fH:Bool}{res:Bool},cH n p0s fH=some res→bR Tryz.prog 176 [.c (PV.ls 5 aZ p0s),.fn 177 [.box 0 0]] [[.c (.bool fH)]] (.c (.bool res)) [[.c (.bool fH)]])∧(∀ {p0s:(List aD)}{fH:Bool}{res:Int},dB n p0s fH=some res→bR Tryz.prog 205 [.c (PV.ls 5 aZ p0s),.fn 177 [.box 0 0]] [[.c (.bool fH)]] (ci res) [[.c (.bool fH)]])∧(∀ {p0C:aD}{p1o:Bool}{res:Bool},jV n p0C p1o=some res→bR Tryz.prog 128 [.agg (AV.cs (dD p0C)),.c (.bool p1o)] [] (.c (.bool res)) [])∧(∀ {p0x:aD}{fH:Bool}{res:Bool},jG n p0x fH=some res→bR Tryz.prog 177 [.agg (AV.cs (dD p0x)),.box 0 0] [[.c (.bool fH)]] (.c (.bool res)) [[.c (.bool fH)]]):=by
 intro n
 induction n with
 | zero=>exact ⟨fun {p0s fH res} h=>absurd h (by simp [cH]),fun {p0s fH res} h=>absurd h (by simp [dB]),fun {p0C p1o res} h=>absurd h (by simp [jV]),fun {p0x fH res} h=>absurd h (by simp [jG])⟩
 | succ n ih =>
  obtain ⟨ih_slices_ContainsFunc_api_Value_api_Value_value_formed_1,ih_slices_IndexFunc_api_Value_api_Value_value_formed_1,ih_value_formed,ih_value_formed_1⟩:=ih
  refine ⟨?_,?_,?_,?_⟩
  ·
   intro p0s fH res h
   rw [cH] at h
   refine cP (fn:=Tryz.f176) [0,1,4] (by kernel_rfl) Tryz.func176 r (by kernel_rfl) (by kernel_rfl)<|aJ<|sB r<|aF (fr':=[(0,aL),(1,.fn _ [.box 0 0])]) r r<|aJ<|mL r<|mV (v:=.fn _ [.box 0 0]) r ?_
   obtain ⟨x1,hx1,h2⟩:=aE h
   refine dK (v:=aI) (σ':=[[aB]]) [0] r (ih_slices_IndexFunc_api_Value_api_Value_value_formed_1 hx1) r r ⟨lr,(aJH r ⟨lr,trivial⟩),trivial⟩ (rV ⟨lr,trivial⟩ aC) r r r<|aQ r (qJ r r)<|sB r<|aF (fr':=[(4,aB)]) r r<|bE ?_
   obtain rfl:=sy h2
   exact bD (rs':=[.tmp 4]) r<|bL (v:=aB) r<|bC<|aR [] r r r lr (cK r aC)
  ·
   intro p0s fH res h
   rw [dB] at h
   refine cP (fn:=Tryz.f205) [0,1,4,5,7,8,9,16] (by kernel_rfl) Tryz.func205 r (by kernel_rfl) (by kernel_rfl)<|aJ<|sI r<|aF (fr':=[(0,aL),(1,.fn _ [.box 0 0])]) r r<|aN<|aJ<|mL r<|aQ r (eX sJ (cZ r))<|mI r<|aF (fr':=[(0,aL),(1,.fn _ [.box 0 0]),(7,aI),(8,aI)]) r r ?_
   obtain ⟨x1,hx1,h2⟩:=aE h
   refine fI iV (fun j3=>x1=Fl.go j3) (fun (j3:Unit)=>([]:Fr)) (fun (j3:Unit)=>([[.c (.bool fH)]]:St)) ?_ ?_
   ·
    refine bK<|fB _ (fun (s4:Int)=>([(0,.c (PV.ls 5 aZ p0s)),(1,.fn 177 [.box 0 0]),(7,ci ((p0s).length:Int)),(8,ci s4)]:Fr)) (fun (s4:Int)=>([[.c (.bool fH)]]:St)) hx1 (bJ [] 1 r r r r ⟨lr,lr,lr,lr,trivial⟩ (cK r aC)) ?_
    intro s4 st4 hs4 ho4
    unfold cW at hs4
    refine aJ<|aQ r (dU r r)<|aF (fr':=[(0,aL),(1,.fn _ [.box 0 0]),(7,aI),(8,aI),(9,aB)]) r r<|aN<|cC hs4 r (fun hb5 h5=>?_) (fun hb5 h5=>?_)
    ·
     refine bA<|bT<|aN<|bK<|aJ<|mI r<|sI r<|aF (fr':=[(0,aL),(1,.fn _ [.box 0 0]),(5,aI),(7,aI),(8,aI)]) r r<|aJ<|mV (v:=.fn _ [.box 0 0]) r<|mL r ?_
     refine mI r ?_
     obtain ⟨x6,hx6,h7⟩:=aE h5
     refine aQ r (jS (cs:=[PV.int _ _,PV.int _ _,PV.str _,PV.ls _ _ _,PV.ls _ _ _]) sK (cZ r) r hx6 (dA _))<|aQ r (iL (us:=[PV.int _ _,PV.int _ _,PV.str _,PV.ls _ _ _,PV.ls _ _ _]) fQ r r r) ?_
     obtain ⟨x8,hx8,h9⟩:=aE h7
     refine dK (v:=aB) (σ':=[[aB]]) [0] r (ih_value_formed_1 hx8) r r ⟨(bM r ⟨r,r,r,r,r,trivial⟩),lr,trivial⟩ (rV ⟨lr,trivial⟩ aC) r r r<|aF (fr':=[(0,aL),(1,.fn _ [.box 0 0]),(5,aI),(7,aI),(8,aI),(16,aB)]) r r<|cC h9 r (fun hb10 h10=>?_) (fun hb10 h10=>?_)
     ·
      refine aJ<|mI r<|sI r<|aF (fr':=[(4,aI)]) r r<|bE<|bB<|aK<|aK<|bB<|aK<|aK ?_
      have h11:=dN h10 ho4
      have h12:=eA h11 h2
      obtain rfl:=sy h12
      exact bD (rs':=[.tmp 4]) r<|bL (v:=aI) r<|bC<|aR [] r r r lr (cK r aC)
     ·
      exact bA<|cA<|bT<|aT<|aQ r (dR r r)<|mI r<|cI (fr':=[(0,aL),(1,.fn _ [.box 0 0]),(5,aI),(7,aI),(8,aI),(16,aB)]) r<|xG _ (sy h10) (bJ [] 1 r r r r ⟨lr,lr,lr,lr,trivial⟩ (cK r aC))
    ·
     refine fJ<|bY<|bY<|eC ?_
     have h14:=dN h5 ho4
     exact lF _ (sy h14) (bJ [] 1 r r r r trivial (cK r aC))
   ·
    intro j3 hj15
    have h15:=kN hj15 h2
    refine bT<|aJ<|sI r<|aF (fr':=[(4,aI)]) r r<|bE ?_
    obtain rfl:=sy h15
    exact bD (rs':=[.tmp 4]) r<|bL (v:=aI) r<|bC<|aR [] r r r lr (cK r aC)
  ·
   intro p0C p1o res h
   rw [jV] at h
   refine cP (fn:=Tryz.f128) [0,1,2,3,4,5,6,7,8,24,25,41,63,75,95,107,115,116,136] (by kernel_rfl) Tryz.func128 r (by kernel_rfl) (by kernel_rfl)<|aJ<|gH (v:=.agg bI) (n:=0) (cs:=bI) (σ':=[bI]) r r r r r<|gH (v:=aB) (n:=1) (cs:=[aB]) (σ':=[bI,[aB]]) r r r r r<|sB r<|aF (fr':=[(2,.box 0 0),(3,.box 1 0)]) r r<|aJ<|aQ r (bF pO r)<|aQ r (aP (v:=aI) fC r r r)<|aQ r (fU r r)<|sB r ?_
   refine aF (fr':=[(2,.box 0 0),(3,.box 1 0),(5,aB)]) r r<|aJ<|aQ r (bF qR r)<|aQ r (aP (v:=aS) nV r r r)<|aQ r (yP r r)<|sB r<|aF (fr':=[(2,.box 0 0),(3,.box 1 0),(5,aB),(6,aB)]) r r<|aJ<|aQ r (bF gG r)<|aQ r (aP (v:=aL) nR r r r)<|aQ r (eX sJ (cZ r)) ?_
   refine aQ r (nO r r)<|sB r<|aF (fr':=[(2,.box 0 0),(3,.box 1 0),(5,aB),(6,aB),(7,aB)]) r r<|aJ<|aQ r (bF mR r)<|aQ r (aP (v:=aL) nA r r r)<|aQ r (eX rZ (cZ r))<|aQ r (nO r r)<|sB r<|aF (fr':=[(2,.box 0 0),(3,.box 1 0),(5,aB),(6,aB),(7,aB),(8,aB)]) r r ?_
   obtain ⟨x1,hx1,h2⟩:=aE h
   refine jX (fun j3=>x1=Fl.go j3) (fun (j3:Unit)=>([(2,.box 0 0),(3,.box 1 0)]:Fr)) (fun (j3:Unit)=>([[ci p0C.Kind,ci p0C.Int,.c (.str p0C.Text),.c (PV.ls 5 aZ p0C.Items),.c (PV.ls 1 fD p0C.Keys)],[.c (.bool p1o)]]:St)) ?_ ?_
   ·
    refine aJ<|aQ r (bF jE r)<|aQ r (aP (v:=aI) fC r r r)<|aF (fr':=[(2,.box 0 0),(3,.box 1 0),(5,aB),(6,aB),(7,aB),(8,aB),(24,aI)]) r r<|bK<|aJ<|aQ r (bX r r)<|sB r<|aF (fr':=[(2,.box 0 0),(3,.box 1 0),(5,aB),(6,aB),(7,aB),(8,aB),(24,aI),(25,aB)]) r r<|cC hx1 r (fun hb4 h4=>?_) (fun hb4 h4=>?_)
    ·
     refine aJ<|mB r<|aQ r (eU r)<|mB r<|og r r r (fun hc=>(aU (v:=aB) r))<|og r r r (fun hc=>(eU (gx r hc)))<|aQ r (bS r r r (fun e=>fG e))<|mB r<|og r r r (fun hc=>(aU (v:=aB) r))<|og r r r (fun hc=>(eU (gx r hc)))<|aQ r (bS r r r (fun e=>fG e))<|mB r ?_
     refine og r r r (fun hc=>(aU (v:=aB) r))<|og r r r (fun hc=>(eU (gx r hc)))<|aQ r (bS r r r (fun e=>fG e))<|sB r<|aF (fr':=[(4,aB)]) r r<|bE<|bB<|aK ?_
     have h5:=eA h4 h2
     obtain rfl:=sy h5
     exact bD (rs':=[.tmp 4]) r<|bL (v:=aB) r<|bC<|aR [] r r r lr aC
    ·
     refine aJ<|aQ r (bX r r)<|sB r<|aF (fr':=[(2,.box 0 0),(3,.box 1 0),(5,aB),(6,aB),(7,aB),(8,aB),(24,aI),(41,aB)]) r r<|cC h4 r (fun hb7 h7=>?_) (fun hb7 h7=>?_)
     ·
      refine aJ<|aQ r (bF pO r)<|aQ r (aP (v:=aI) fC r r r)<|aQ r (bX r r)<|mB r<|og r r r (fun hc=>(bF pO r))<|og r r r (fun hc=>(aP (v:=aI) fC (gx r hc) r r))<|og r r r (fun hc=>(bX (gx r hc) r))<|aQ r (cB r r r (fun e=>fG e))<|mB r<|og r r r (fun hc=>(aU (v:=aB) r))<|og r r r (fun hc=>(eU (gx r hc))) ?_
      refine aQ r (bS r r r (fun e=>fG e))<|mB r<|og r r r (fun hc=>(aU (v:=aB) r))<|og r r r (fun hc=>(eU (gx r hc)))<|aQ r (bS r r r (fun e=>fG e))<|mB r<|og r r r (fun hc=>(aU (v:=aB) r))<|og r r r (fun hc=>(eU (gx r hc)))<|aQ r (bS r r r (fun e=>fG e))<|sB r<|aF (fr':=[(4,aB)]) r r<|bE<|bB ?_
      refine aK ?_
      have h8:=eA h7 h2
      obtain rfl:=sy h8
      exact bD (rs':=[.tmp 4]) r<|bL (v:=aB) r<|bC<|aR [] r r r lr aC
     ·
      refine aJ<|aQ r (bX r r)<|sB r<|aF (fr':=[(2,.box 0 0),(3,.box 1 0),(5,aB),(6,aB),(7,aB),(8,aB),(24,aI),(63,aB)]) r r<|cC h7 r (fun hb10 h10=>?_) (fun hb10 h10=>?_)
      ·
       refine aJ<|mB r<|aQ r (eU r)<|mB r<|og r r r (fun hc=>(aU (v:=aB) r))<|og r r r (fun hc=>(eU (gx r hc)))<|aQ r (bS r r r (fun e=>fG e))<|mB r<|og r r r (fun hc=>(aU (v:=aB) r))<|og r r r (fun hc=>(eU (gx r hc)))<|aQ r (bS r r r (fun e=>fG e))<|sB r ?_
       refine aF (fr':=[(4,aB)]) r r<|bE<|bB<|aK ?_
       have h11:=eA h10 h2
       obtain rfl:=sy h11
       exact bD (rs':=[.tmp 4]) r<|bL (v:=aB) r<|bC<|aR [] r r r lr aC
      ·
       refine aJ<|aQ r (bX r r)<|sB r<|aF (fr':=[(2,.box 0 0),(3,.box 1 0),(5,aB),(6,aB),(7,aB),(8,aB),(24,aI),(75,aB)]) r r<|cC h10 r (fun hb13 h13=>?_) (fun hb13 h13=>?_)
       ·
        refine aJ<|aQ r (aP (v:=aB) tv4 r r r)<|mB r<|og r r r (fun hc=>(bF pO r))<|og r r r (fun hc=>(aP (v:=aI) fC (gx r hc) r r))<|og r r r (fun hc=>(qJ (gx r hc) r))<|aQ r (bS r r r (fun e=>fG e))<|mB r<|og r r r (fun hc=>(aU (v:=aB) r))<|og r r r (fun hc=>(eU (gx r hc)))<|aQ r (bS r r r (fun e=>fG e))<|mB r ?_
        refine og r r r (fun hc=>(aU (v:=aB) r))<|og r r r (fun hc=>(eU (gx r hc)))<|aQ r (bS r r r (fun e=>fG e))<|mB r<|og r r r (fun hc=>(aU (v:=aB) r))<|og r r r (fun hc=>(eU (gx r hc)))<|aQ r (bS r r r (fun e=>fG e))<|sB r<|aF (fr':=[(4,aB)]) r r<|bE<|bB<|aK ?_
        have h14:=eA h13 h2
        obtain rfl:=sy h14
        exact bD (rs':=[.tmp 4]) r<|bL (v:=aB) r<|bC<|aR [] r r r lr aC
       ·
        refine aJ<|aQ r (bX r r)<|sB r<|aF (fr':=[(2,.box 0 0),(3,.box 1 0),(5,aB),(6,aB),(7,aB),(8,aB),(24,aI),(95,aB)]) r r<|cC h13 r (fun hb16 h16=>?_) (fun hb16 h16=>?_)
        ·
         refine aJ<|mB r<|aQ r (eU r)<|mB r<|og r r r (fun hc=>(aU (v:=aB) r))<|og r r r (fun hc=>(eU (gx r hc)))<|aQ r (bS r r r (fun e=>fG e))<|mB r<|og r r r (fun hc=>(aU (v:=aB) r))<|og r r r (fun hc=>(eU (gx r hc)))<|aQ r (bS r r r (fun e=>fG e))<|sB r ?_
         refine aF (fr':=[(4,aB)]) r r<|bE<|bB<|aK ?_
         have h17:=eA h16 h2
         obtain rfl:=sy h17
         exact bD (rs':=[.tmp 4]) r<|bL (v:=aB) r<|bC<|aR [] r r r lr aC
        ·
         refine aJ<|aQ r (bX r r)<|sB r<|aF (fr':=[(2,.box 0 0),(3,.box 1 0),(5,aB),(6,aB),(8,aB),(24,aI),(107,aB)]) r r<|cC h16 r (fun hb19 h19=>?_) (fun hb19 h19=>?_)
         ·
          refine aJ<|mB r<|mB r<|og r r r (fun hc=>(aU (v:=aB) r))<|aQ r (cB r r r (fun e=>fG e))<|mB r<|og r r r (fun hc=>(aU (v:=aB) r))<|aQ r (cB r r r (fun e=>fG e))<|aF (fr':=[(2,.box 0 0),(3,.box 1 0),(115,aB)]) r r<|cC h19 r (fun hb20 h20=>?_) (fun hb20 h20=>?_)
          ·
           refine aJ<|sB r<|aF (fr':=[(4,aB)]) r r<|bE<|bB<|aK ?_
           have h21:=eA h20 h2
           obtain rfl:=sy h21
           exact bD (rs':=[.tmp 4]) r<|bL (v:=aB) r<|bC<|aR [] r r r lr aC
          ·
           exact bA<|cA<|lF _ (sy h20) (bJ [] 2 r r r r ⟨lr,lr,trivial⟩ (cK r (cK r aC)))
         ·
          refine aJ<|aQ r (bX r r)<|sB r<|aF (fr':=[(2,.box 0 0),(3,.box 1 0),(5,aB),(6,aB),(116,aB)]) r r<|cC h19 r (fun hb23 h23=>?_) (fun hb23 h23=>?_)
          ·
           refine aJ<|mB r<|mB r<|og r r r (fun hc=>(aU (v:=aB) r))<|aQ r (cB r r r (fun e=>fG e))<|mB r<|og r r r (fun hc=>(bF mR r))<|og r r r (fun hc=>(aP (v:=aL) nA (gx r hc) r r))<|og r r r (fun hc=>(eX rZ (cZ (gx r hc))))<|og r r r (fun hc=>(bF gG r))<|og r r r (fun hc=>(aP (v:=aL) nR (gx r hc) r r))<|og r r r (fun hc=>(eX sJ (cZ (gx r hc)))) ?_
           refine og r r r (fun hc=>(fU (gx r hc) (gx r hc)))<|aQ r (cB r r r (fun e=>fG e))<|mB r<|og r r r (fun hc=>(bF mR r))<|og r r r (fun hc=>(aP (v:=aL) nA (gx r hc) r r)) ?_
           obtain ⟨x24,hx24,h25⟩:=aE h23
           refine vQ r r (fun hc=>bG (v:=aB) r (aAv (cV hx24 hc)) ⟨(fK (gx r hc) lr),trivial⟩ (fT (by repeat (first | exact eK | refine aY r ?_ | refine aY (rI r) ?_ | refine aY rH ?_))) r r) ?_
           refine og r r r (fun hc=>(eU (gx r hc)))<|aQ r (cB r r r (fun e=>fG e))<|aF (fr':=[(2,.box 0 0),(3,.box 1 0),(136,aB)]) r r<|cC h25 r (fun hb26 h26=>?_) (fun hb26 h26=>?_)
           ·
            refine aJ<|sB r<|aF (fr':=[(4,aB)]) r r<|bE<|bB<|aK ?_
            have h27:=eA h26 h2
            obtain rfl:=sy h27
            exact bD (rs':=[.tmp 4]) r<|bL (v:=aB) r<|bC<|aR [] r r r lr aC
           ·
            exact bA<|cA<|lF _ (sy h26) (bJ [] 2 r r r r ⟨lr,lr,trivial⟩ (cK r (cK r aC)))
          ·
           refine aJ<|sB r<|aF (fr':=[(4,aB)]) r r<|bE<|bB<|aK ?_
           have h29:=eA h23 h2
           obtain rfl:=sy h29
           exact bD (rs':=[.tmp 4]) r<|bL (v:=aB) r<|bC<|aR [] r r r lr aC
   ·
    intro j3 hj31
    have h31:=kN hj31 h2
    refine aJ<|aQ r (bF gG r)<|aQ r (aP (v:=aL) nR r r r)<|aQ r (aMt (cs:=[.box 1 0]) r r) ?_
    obtain ⟨x32,hx32,h33⟩:=aE h31
    refine dK (v:=aB) (σ':=[bI,[aB]]) [1] r (ih_slices_ContainsFunc_api_Value_api_Value_value_formed_1 hx32) r r ⟨lr,(aJH r ⟨lr,trivial⟩),trivial⟩ (rV ⟨lr,trivial⟩ aC) r r r<|aQ r (eU r)<|sB r<|aF (fr':=[(4,aB)]) r r<|bE ?_
    obtain rfl:=sy h33
    exact bD (rs':=[.tmp 4]) r<|bL (v:=aB) r<|bC<|aR [] r r r lr aC
  ·
   intro p0x fH res h
   rw [jG] at h
   refine cP (fn:=Tryz.f177) [0,1,2,3] (by kernel_rfl) Tryz.func177 r (by kernel_rfl) (by kernel_rfl)<|aJ<|gH (v:=.agg bI) (n:=1) (cs:=bI) (σ':=[[aB],bI]) r r r r r<|sB r<|aF (fr':=[(1,.box 0 0),(2,.box 1 0)]) r r<|aJ<|aQ r (dF (us:=bI) fQ r r r r)<|aQ r (aP (v:=aB) tv4 r r r) ?_
   obtain ⟨x1,hx1,h2⟩:=aE h
   refine jZ (bG (v:=aB) r (ih_value_formed hx1) ⟨(bM r ⟨r,r,r,r,r,trivial⟩),lr,trivial⟩ r r r)<|aQ r (eU r)<|sB r<|aF (fr':=[(3,aB)]) r r<|bE ?_
   obtain rfl:=sy h2
   exact bD (rs':=[.tmp 3]) r<|bL (v:=aB) r<|bC<|aR [] r r r lr (cK r aC)
noncomputable def rC (p0C:aD) (p1o:Bool):Option Bool:=lim fun n=>jV n p0C p1o
theorem xA {p0C:aD}{p1o:Bool}{res:Bool} (h:rC p0C p1o=some res):bR Tryz.prog 128 [.agg (AV.cs (dD p0C)),.c (.bool p1o)] [] (.c (.bool res)) []:=by
 obtain ⟨n,hn⟩:=nM h
 exact (hF n).2.2.1 hn
noncomputable def gO (tO:(List UInt8)→aD→Option (List UInt8)) (p1v:aD) (s34:((List UInt8) × Int)):Option (cD ((List UInt8) × Int) (List UInt8)) :=
 cond (decide (s34.2<((p1v.Items).length:Int))) ((gR p1v.Items s34.2).bind fun x36=>cond (decide (p1v.Kind=(5:Int))) ((gR p1v.Keys s34.2).bind fun x39=>(gM s34.1 x39).bind fun x41=>(tO x41 x36).bind fun x43=>some (cD.next (x43,(IntKind.wrap .i64 (s34.2+(1:Int)))))) ((tO s34.1 x36).bind fun x45=>some (cD.next (x45,(IntKind.wrap .i64 (s34.2+(1:Int))))))) (some (cD.out s34.1))
noncomputable def iS:Nat→(List UInt8)→aD→Option (List UInt8)
 | 0,_,_=>none
 | n+1,p0b,p1v =>
  (eP p0b p1v.Kind).bind fun x1=>((((cond (decide (p1v.Kind=(1:Int))) (some (decide (p1v.Kind=(1:Int)))) (cond (decide (p1v.Kind=(2:Int))) (some (decide (p1v.Kind=(2:Int)))) (some (decide (p1v.Kind=(6:Int)))))):Option Bool).bind fun x6=>(cond x6 ((eP x1 p1v.Int).bind fun x13=>some (Fl.done x13)) (cond (decide (p1v.Kind=(3:Int))) ((gM x1 p1v.Text).bind fun x18=>some (Fl.done x18)) (((cond (decide (p1v.Kind=(4:Int))) (some (decide (p1v.Kind=(4:Int)))) (some (decide (p1v.Kind=(5:Int))))):Option Bool).bind fun x22=>(cond x22 ((eP x1 ((p1v.Items).length:Int)).bind fun x28=>some (Fl.go x28)) (some (Fl.go x1))))))):Option (Fl (List UInt8) (List UInt8))).bind fun x3=>Fl.next x3 (fun j5=>(((dO (gO (iS n) p1v) ((j5,(0:Int)))):Option (List UInt8)).bind fun x31=>(some x31)))
theorem aBu:∀ n:Nat,(∀ {p0b:(List UInt8)}{p1v:aD}{res:(List UInt8)},iS n p0b p1v=some res→bR Tryz.prog 129 [.c (PV.ls 1 eD p0b),.agg (AV.cs (dD p1v))] [] (AV.os 0 1 eD res) []):=by
 intro n
 induction n with
 | zero=>exact fun {p0b p1v res} h=>absurd h (by simp [iS])
 | succ n ih =>
  have ih_value_encode:=@ih
  intro p0b p1v res h
  rw [iS] at h
  refine cP (fn:=Tryz.f129) [0,1,3,4,5,6,12,13,21,27,36,37,38,39,45] (by kernel_rfl) Tryz.func129 r (by kernel_rfl) (by kernel_rfl)<|aJ<|gH (v:=.agg bI) (n:=0) (cs:=bI) (σ':=[bI]) r r r r r<|sV (v:=AV.nil) r<|aF (fr':=[(0,aL),(3,.box 0 0)]) r r<|aJ<|mL r<|aQ r (bF jE r)<|aQ r (aP (v:=aI) fC r r r) ?_
  obtain ⟨x1,hx1,h2⟩:=aE h
  refine jZ (bG (v:=aO) r (eY hx1) ⟨lr,lr,trivial⟩ r r r)<|sV (v:=aO) r<|aF (fr':=[(0,aO),(3,.box 0 0)]) r r ?_
  obtain ⟨x3,hx3,h4⟩:=aE h2
  refine jX (fun j5=>x3=Fl.go j5) (fun (j5:(List UInt8))=>([(0,AV.os 0 1 eD j5),(3,.box 0 0)]:Fr)) (fun (j5:(List UInt8))=>([[ci p1v.Kind,ci p1v.Int,.c (.str p1v.Text),.c (PV.ls 5 aZ p1v.Items),.c (PV.ls 1 fD p1v.Keys)]]:St)) ?_ ?_
  ·
   refine aJ<|aQ r (bF jE r)<|aQ r (aP (v:=aI) fC r r r)<|aF (fr':=[(0,aO),(3,.box 0 0),(12,aI)]) r r<|bK ?_
   obtain ⟨x6,hx6,h7⟩:=aE hx3
   refine jX (fun j8=>x6=j8) (fun (j8:Bool)=>([(0,AV.os 0 1 eD x1),(3,.box 0 0),(12,ci p1v.Kind),(13,.c (.bool j8))]:Fr)) (fun (j8:Bool)=>([[ci p1v.Kind,ci p1v.Int,.c (.str p1v.Text),.c (PV.ls 5 aZ p1v.Items),.c (PV.ls 1 fD p1v.Keys)]]:St)) ?_ ?_
   ·
    refine aJ<|aQ r (bX r r)<|sB r<|aF (fr':=[(0,aO),(3,.box 0 0),(12,aI),(13,aB)]) r r<|cC hx6 r (fun hb9 h9=>?_) (fun hb9 h9=>?_)
    ·
     exact bA<|lF _ (sy h9) (bJ [160] 1 r r r r ⟨lr,lr,lr,lr,trivial⟩ (cK r aC))
    ·
     refine aJ<|aQ r (bX r r)<|sB r<|aF (fr':=[(0,aO),(3,.box 0 0),(12,aI),(13,aB)]) r r<|cC h9 r (fun hb10 h10=>?_) (fun hb10 h10=>?_)
     ·
      exact bA<|lF _ (sy h10) (bJ [160] 1 r r r r ⟨lr,lr,lr,lr,trivial⟩ (cK r aC))
     ·
      exact aT<|aQ r (bX r r)<|sB r<|cI (fr':=[(0,aO),(3,.box 0 0),(12,aI),(13,aB)]) r<|lF _ (sy h10) (bJ [160] 1 r r r r ⟨lr,lr,lr,lr,trivial⟩ (cK r aC))
   ·
    intro j8 hj11
    subst hj11
    refine cC h7 r (fun hb12 h12=>?_) (fun hb12 h12=>?_)
    ·
     refine aJ<|mV (v:=aO) r<|aQ r (bF pO r)<|aQ r (aP (v:=aI) fC r r r) ?_
     obtain ⟨x13,hx13,h14⟩:=aE h12
     refine jZ (bG (v:=aO) r (eY hx13) ⟨lr,lr,trivial⟩ r r r)<|sV (v:=aO) r<|aF (fr':=[(4,aO)]) r r<|bE<|bB<|aK ?_
     have h15:=eA h14 h4
     obtain rfl:=sy h15
     exact bD (rs':=[.tmp 4]) r<|bL (v:=aO) r<|bC<|aR [320] r r r lr aC
    ·
     refine aJ<|aQ r (bX r r)<|sB r<|aF (fr':=[(0,aO),(3,.box 0 0),(12,aI),(21,aB)]) r r<|cC h12 r (fun hb17 h17=>?_) (fun hb17 h17=>?_)
     ·
      refine aJ<|mV (v:=aO) r<|aQ r (bF qR r)<|aQ r (aP (v:=aS) nV r r r) ?_
      obtain ⟨x18,hx18,h19⟩:=aE h17
      refine jZ (bG (v:=aO) r (kP hx18) ⟨lr,lr,trivial⟩ r r r)<|sV (v:=aO) r<|aF (fr':=[(4,aO)]) r r<|bE<|bB<|aK ?_
      have h20:=eA h19 h4
      obtain rfl:=sy h20
      exact bD (rs':=[.tmp 4]) r<|bL (v:=aO) r<|bC<|aR [416] r r r lr aC
     ·
      obtain ⟨x22,hx22,h23⟩:=aE h17
      refine jX (fun j24=>x22=j24) (fun (j24:Bool)=>([(0,AV.os 0 1 eD x1),(3,.box 0 0),(27,.c (.bool j24))]:Fr)) (fun (j24:Bool)=>([[ci p1v.Kind,ci p1v.Int,.c (.str p1v.Text),.c (PV.ls 5 aZ p1v.Items),.c (PV.ls 1 fD p1v.Keys)]]:St)) ?_ ?_
      ·
       refine aJ<|aQ r (bX r r)<|sB r<|aF (fr':=[(0,aO),(3,.box 0 0),(12,aI),(27,aB)]) r r<|cC hx22 r (fun hb25 h25=>?_) (fun hb25 h25=>?_)
       ·
        exact bA<|lF _ (sy h25) (bJ [0] 1 r r r r ⟨lr,lr,lr,trivial⟩ (cK r aC))
       ·
        exact aT<|aQ r (bX r r)<|sB r<|cI (fr':=[(0,aO),(3,.box 0 0),(12,aI),(27,aB)]) r<|lF _ (sy h25) (bJ [0] 1 r r r r ⟨lr,lr,lr,trivial⟩ (cK r aC))
      ·
       intro j24 hj26
       subst hj26
       refine cC h23 r (fun hb27 h27=>?_) (fun hb27 h27=>?_)
       ·
        refine aT<|mV (v:=aO) r<|aQ r (bF gG r)<|aQ r (aP (v:=aL) nR r r r)<|aQ r (eX sJ (cZ r)) ?_
        obtain ⟨x28,hx28,h29⟩:=aE h27
        exact jZ (bG (v:=aO) r (eY hx28) ⟨lr,lr,trivial⟩ r r r)<|sV (v:=aO) r<|cI (fr':=[(0,aO),(3,.box 0 0),(27,aB)]) r<|cA<|lF _ (sy h29) (bJ [544] 1 r r r r ⟨lr,lr,trivial⟩ (cK r aC))
       ·
        exact bA<|cA<|lF _ (sy h27) (bJ [0] 1 r r r r ⟨lr,lr,trivial⟩ (cK r aC))
  ·
   intro j5 hj30
   have h30:=kN hj30 h4
   refine aN<|aJ<|aQ r (bF gG r)<|aQ r (aP (v:=aL) nR r r r)<|aQ r (eX sJ (cZ r))<|mI r<|aF (fr':=[(0,aO),(3,.box 0 0),(36,aL),(37,aI),(38,aI)]) r r ?_
   obtain ⟨x31,hx31,h32⟩:=aE h30
   refine fI iV (fun j33=>x31=j33) (fun (j33:(List UInt8))=>([(0,AV.os 0 1 eD j33)]:Fr)) (fun (j33:(List UInt8))=>([[ci p1v.Kind,ci p1v.Int,.c (.str p1v.Text),.c (PV.ls 5 aZ p1v.Items),.c (PV.ls 1 fD p1v.Keys)]]:St)) ?_ ?_
   ·
    refine bK<|fB _ (fun (s34:((List UInt8) × Int))=>([(0,AV.os 0 1 eD s34.1),(3,.box 0 0),(36,.c (PV.ls 5 aZ p1v.Items)),(37,ci ((p1v.Items).length:Int)),(38,ci s34.2)]:Fr)) (fun (s34:((List UInt8) × Int))=>([[ci p1v.Kind,ci p1v.Int,.c (.str p1v.Text),.c (PV.ls 5 aZ p1v.Items),.c (PV.ls 1 fD p1v.Keys)]]:St)) hx31 (bJ [0] 1 r r r r ⟨lr,lr,lr,lr,lr,trivial⟩ (cK r aC)) ?_
    intro s34 st34 hs34 ho34
    unfold gO at hs34
    refine aJ<|aQ r (dU r r)<|aF (fr':=[(0,aO),(3,.box 0 0),(36,aL),(37,aI),(38,aI),(39,aB)]) r r<|aN<|cC hs34 r (fun hb35 h35=>?_) (fun hb35 h35=>?_)
    ·
     refine bA<|bT<|aN<|bK<|aJ<|mI r ?_
     obtain ⟨x36,hx36,h37⟩:=aE h35
     refine aQ r (jS (cs:=[PV.int _ _,PV.int _ _,PV.str _,PV.ls _ _ _,PV.ls _ _ _]) sK (cZ r) r hx36 (dA _))<|aQ r (iL (us:=[PV.int _ _,PV.int _ _,PV.str _,PV.ls _ _ _,PV.ls _ _ _]) fQ r r r)<|fZ (n:=1) (cs:=bH) (σ':=[bI,bH]) aAm r r r<|sI r<|bO (v:=.agg bI) (us:=bI) (cs:=bH) (σ':=[bI,bI]) r fQ r r r r r r r r<|aF (fr':=[(0,aO),(3,.box 0 0),(5,aI),(6,.box 1 0),(36,aL),(37,aI),(38,aI)]) r r<|aN<|aJ<|aQ r (bF jE r)<|aQ r (aP (v:=aI) fC r r r)<|aQ r (bX r r)<|aF (fr':=[(0,aO),(3,.box 0 0),(5,aI),(6,.box 1 0),(36,aL),(37,aI),(38,aI),(45,aB)]) r r ?_
     refine cC h37 r (fun hb38 h38=>?_) (fun hb38 h38=>?_)
     ·
      refine aT<|mV (v:=aO) r<|aQ r (bF mR r)<|aQ r (aP (v:=aL) nA r r r)<|mI r ?_
      obtain ⟨x39,hx39,h40⟩:=aE h38
      refine aQ r (jS (cs:=[PV.str _]) uW (cZ r) r hx39 r)<|aQ r (fV (p:=PV.str _) nV r r) ?_
      obtain ⟨x41,hx41,h42⟩:=aE h40
      refine jZ (bG (v:=aO) r (kP hx41) ⟨lr,lr,trivial⟩ r r r)<|sV (v:=aO) r<|aF (fr':=[(0,aO),(3,.box 0 0),(6,.box 1 0),(36,aL),(37,aI),(38,aI)]) r r<|aT<|mV (v:=aO) r<|aQ r (dF (us:=bI) fQ r r r r) ?_
      obtain ⟨x43,hx43,h44⟩:=aE h42
      exact jZ (bG (v:=aO) r (ih_value_encode hx43) ⟨lr,(bM r ⟨r,r,r,r,r,trivial⟩),trivial⟩ r r r)<|sV (v:=aO) r<|cI (fr':=[(0,aO),(3,.box 0 0),(6,.box 1 0),(36,aL),(37,aI),(38,aI)]) r<|cA<|bT<|aT<|aQ r (dR r r)<|mI r<|cI (fr':=[(0,aO),(3,.box 0 0),(6,.box 1 0),(36,aL),(37,aI),(38,aI)]) r<|xG _ (sy h44) (bJ [880] 1 r r r r ⟨lr,lr,lr,lr,lr,trivial⟩ (cK r aC))
     ·
      refine bA<|bT<|aT<|mV (v:=aO) r<|aQ r (dF (us:=bI) fQ r r r r) ?_
      obtain ⟨x45,hx45,h46⟩:=aE h38
      exact jZ (bG (v:=aO) r (ih_value_encode hx45) ⟨lr,(bM r ⟨r,r,r,r,r,trivial⟩),trivial⟩ r r r)<|sV (v:=aO) r<|cI (fr':=[(0,aO),(3,.box 0 0),(5,aI),(6,.box 1 0),(36,aL),(37,aI),(38,aI),(45,aB)]) r<|cA<|bT<|aT<|aQ r (dR r r)<|mI r<|cI (fr':=[(0,aO),(3,.box 0 0),(5,aI),(6,.box 1 0),(36,aL),(37,aI),(38,aI),(45,aB)]) r<|xG _ (sy h46) (bJ [880] 1 r r r r ⟨lr,lr,lr,lr,lr,trivial⟩ (cK r aC))
    ·
     refine fJ<|bY<|bY<|eC ?_
     have h47:=dN h35 ho34
     exact lF _ (sy h47) (bJ [0] 1 r r r r ⟨lr,trivial⟩ (cK r aC))
   ·
    intro j33 hj48
    subst hj48
    refine bT<|aJ<|mV (v:=aO) r<|sV (v:=aO) r<|aF (fr':=[(4,aO)]) r r<|bE ?_
    obtain rfl:=sy h32
    exact bD (rs':=[.tmp 4]) r<|bL (v:=aO) r<|bC<|aR [0] r r r lr aC
noncomputable def vA (p0b:(List UInt8)) (p1v:aD):Option (List UInt8):=lim fun n=>iS n p0b p1v
theorem aC0 {p0b:(List UInt8)}{p1v:aD}{res:(List UInt8)} (h:vA p0b p1v=some res):bR Tryz.prog 129 [.c (PV.ls 1 eD p0b),.agg (AV.cs (dD p1v))] [] (AV.os 0 1 eD res) []:=by
 obtain ⟨n,hn⟩:=nM h
 exact (aBu n) hn
noncomputable def oZ (p0b:(List UInt8)) (p1v:aD):Option (List UInt8) :=
 (eV p0b).bind fun x1=>(rC p1v true).bind fun x3=>cond (!x3) (some x1) ((vA x1 p1v).bind fun x7=>some x7)
theorem aCZ {p0b:(List UInt8)}{p1v:aD}{res:(List UInt8)} (h:oZ p0b p1v=some res):bR Tryz.prog 55 [.c (PV.ls 1 eD p0b),.agg (AV.cs (dD p1v))] [] (AV.os 0 1 eD res) []:=by
 unfold oZ at h
 refine cP (fn:=Tryz.f55) [0,1,3,4,5,10] (by kernel_rfl) Tryz.func55 r (by kernel_rfl) (by kernel_rfl)<|aJ<|gH (v:=.agg bI) (n:=0) (cs:=bI) (σ':=[bI]) r r r r r<|sV (v:=AV.nil) r<|aF (fr':=[(0,aL),(3,.box 0 0)]) r r<|aJ<|mL r ?_
 obtain ⟨x1,hx1,h2⟩:=aE h
 refine jZ (bG (v:=aO) r (hG hx1) ⟨lr,trivial⟩ r r r)<|sV (v:=aO) r<|aF (fr':=[(3,.box 0 0),(5,aO)]) r r<|aN<|aJ<|aQ r (dF (us:=bI) fQ r r r r) ?_
 obtain ⟨x3,hx3,h4⟩:=aE h2
 refine jZ (bG (v:=aB) r (xA hx3) ⟨(bM r ⟨r,r,r,r,r,trivial⟩),lr,trivial⟩ r r r)<|aQ r (eU r)<|aF (fr':=[(3,.box 0 0),(5,aO),(10,aB)]) r r<|cC h4 r (fun hb5 h5=>?_) (fun hb5 h5=>?_)
 ·
  refine aJ<|mV (v:=aO) r<|sV (v:=aO) r<|aF (fr':=[(4,aO)]) r r<|bE<|aK ?_
  obtain rfl:=sy h5
  exact bD (rs':=[.tmp 4]) r<|bL (v:=aO) r<|bC<|aR [112] r r r lr aC
 ·
  refine bA<|bT<|aJ<|mV (v:=aO) r<|aQ r (dF (us:=bI) fQ r r r r) ?_
  obtain ⟨x7,hx7,h8⟩:=aE h5
  refine jZ (bG (v:=aO) r (aC0 hx7) ⟨lr,(bM r ⟨r,r,r,r,r,trivial⟩),trivial⟩ r r r)<|sV (v:=aO) r<|aF (fr':=[(4,aO)]) r r<|bE ?_
  obtain rfl:=sy h8
  exact bD (rs':=[.tmp 4]) r<|bL (v:=aO) r<|bC<|aR [224] r r r lr aC
noncomputable def gD (p0n:Int) (oR:Int) (kX:Int):Option Bool :=
 some (cond (decide (oR≤p0n)) (decide (p0n≤kX)) false)
theorem gL {p0n:Int}{oR:Int}{kX:Int}{res:Bool} (h:gD p0n oR kX=some res):bR Tryz.prog 148 [ci p0n,ci oR,ci kX] [] (.c (.bool res)) []:=by
 unfold gD at h
 refine cP (fn:=Tryz.f148) [0,1,2,6] (by kernel_rfl) Tryz.func148 r (by kernel_rfl) (by kernel_rfl)<|aJ<|sB r<|aF (fr':=[(0,aI),(1,aI),(2,aI)]) r r<|aJ<|mI r<|mI r<|aQ r (qJ r r)<|mB r<|og r r r (fun hc=>(aU (v:=aI) r))<|og r r r (fun hc=>(aU (v:=aI) r)) ?_
 refine og r r r (fun hc=>(tN (gx r hc) (gx r hc)))<|aQ r (bS r r r (fun e=>fG e))<|sB r<|aF (fr':=[(6,aB)]) r r<|bE ?_
 obtain rfl:=sy h
 exact bD (rs':=[.tmp 6]) r<|bL (v:=aB) r<|bC<|aR [] r r r lr aC
noncomputable def qH (p0c:Int):Option Bool :=
 some (cond (cond (cond (decide ((97:Int)≤p0c)) (decide (p0c≤(122:Int))) false) true (cond (decide ((65:Int)≤p0c)) (decide (p0c≤(90:Int))) false)) true (decide (p0c=(95:Int))))
theorem aDu {p0c:Int}{res:Bool} (h:qH p0c=some res):bR Tryz.prog 199 [.c (.int .u8 p0c)] [] (.c (.bool res)) []:=by
 unfold qH at h
 refine cP (fn:=Tryz.f199) [0,2] (by kernel_rfl) Tryz.func199 r (by kernel_rfl) (by kernel_rfl)<|aJ<|sB r<|aF (fr':=[(0,aI)]) r r<|aJ<|mI r<|aQ r (qJ r r)<|mB r<|og r r r (fun hc=>(aU (v:=aI) r))<|og r r r (fun hc=>(tN (gx r hc) r))<|aQ r (bS r r r (fun e=>fG e)) ?_
 refine mB r<|og r r r (fun hc=>(aU (v:=aI) r))<|og r r r (fun hc=>(qJ (gx r hc) r))<|og r r r (fun hc=>(aU (v:=aB) (gx r hc)))<|eJ r r (fun hc=>eW r (aU (v:=aI) r))<|eJ r r (fun hc=>eW r (tN (gx r hc) r))<|og r r r (fun hc=>(bS (gx r hc) r r (fun e=>qB hc (fG e))))<|aQ r (cB r r r (fun e=>fG e))<|mB r<|og r r r (fun hc=>(aU (v:=aI) r))<|og r r r (fun hc=>(bX (gx r hc) r))<|aQ r (cB r r r (fun e=>fG e))<|sB r ?_
 refine aF (fr':=[(2,aB)]) r r<|bE ?_
 obtain rfl:=sy h
 exact bD (rs':=[.tmp 2]) r<|bL (v:=aB) r<|bC<|aR [] r r r lr aC
noncomputable def pS (p0s:(List UInt8)) (s6:Int):Option (cD Int (Fl Bool Unit)) :=
 cond (decide (s6<((p0s).length:Int))) ((gR p0s s6).bind fun x8=>(qH ((x8).toNat:Int)).bind fun x10=>(gd (((!x10)==true)&&((decide (s6=(0:Int)))==false)) (gR p0s s6)).bind fun x12=>(gd (((!x10)==true)&&((cond (decide (s6=(0:Int))) true (decide (((x12).toNat:Int)<(48:Int))))==false)) (gR p0s s6)).bind fun x14=>cond (cond (!x10) (cond (cond (decide (s6=(0:Int))) true (decide (((x12).toNat:Int)<(48:Int)))) true (decide ((57:Int)<((x14).toNat:Int)))) false) (some (cD.out (Fl.done false))) (some (cD.next (IntKind.wrap .i64 (s6+(1:Int)))))) (some (cD.out (Fl.go ())))
noncomputable def jQ (p0s:(List UInt8)):Option Bool :=
 cond (cond (decide (p0s=([]:List UInt8))) true (decide ((64:Int)<((p0s).length:Int)))) (some false) (((dO (pS p0s) ((0:Int))):Option (Fl Bool Unit)).bind fun x3=>Fl.next x3 (fun j5=>(some true)))
theorem nB {p0s:(List UInt8)}{res:Bool} (h:jQ p0s=some res):bR Tryz.prog 167 [.c (.str p0s)] [] (.c (.bool res)) []:=by
 unfold jQ at h
 refine cP (fn:=Tryz.f167) [0,2,3,10,12,13,14,36] (by kernel_rfl) Tryz.func167 r (by kernel_rfl) (by kernel_rfl)<|aJ<|sB r<|aF (fr':=[(0,aS)]) r r<|aN<|aJ<|mS r<|aQ r (uJ r r)<|mB r<|og r r r (fun hc=>(aU (v:=aS) r))<|og r r r (fun hc=>(jT tT (gx r hc))) ?_
 refine og r r r (fun hc=>(nO (gx r hc) r))<|aQ r (cB r r r (fun e=>fG e))<|aF (fr':=[(0,aS),(10,aB)]) r r<|cC h r (fun hb1 h1=>?_) (fun hb1 h1=>?_)
 ·
  refine aJ<|sB r<|aF (fr':=[(2,aB)]) r r<|bE<|aK ?_
  obtain rfl:=sy h1
  exact bD (rs':=[.tmp 2]) r<|bL (v:=aB) r<|bC<|aR [] r r r lr aC
 ·
  refine bA<|bT<|aN<|aJ<|mS r<|aQ r (jT tT r)<|mI r<|aF (fr':=[(0,aS),(12,aI),(13,aI)]) r r ?_
  obtain ⟨x3,hx3,h4⟩:=aE h1
  refine fI iV (fun j5=>x3=Fl.go j5) (fun (j5:Unit)=>([]:Fr)) (fun (j5:Unit)=>([]:St)) ?_ ?_
  ·
   refine bK<|fB _ (fun (s6:Int)=>([(0,.c (.str p0s)),(12,ci ((p0s).length:Int)),(13,ci s6)]:Fr)) (fun (s6:Int)=>([]:St)) hx3 (bJ [] 0 r r r r ⟨lr,lr,lr,trivial⟩ aC) ?_
   intro s6 st6 hs6 ho6
   unfold pS at hs6
   refine aJ<|aQ r (dU r r)<|aF (fr':=[(0,aS),(12,aI),(13,aI),(14,aB)]) r r<|aN<|cC hs6 r (fun hb7 h7=>?_) (fun hb7 h7=>?_)
   ·
    refine bA<|bT<|aN<|bK<|aJ<|mI r<|sI r<|aF (fr':=[(0,aS),(3,aI),(12,aI),(13,aI)]) r r<|aJ<|mS r<|mI r ?_
    obtain ⟨x8,hx8,h9⟩:=aE h7
    refine aQ r (aCr tT r r hx8) ?_
    obtain ⟨x10,hx10,h11⟩:=aE h9
    refine jZ (bG (v:=aB) r (aDu hx10) ⟨lr,trivial⟩ r r r)<|aQ r (eU r)<|mB r<|og r r r (fun hc=>(aU (v:=aI) r))<|og r r r (fun hc=>(bX (gx r hc) r))<|og r r r (fun hc=>(aU (v:=aB) (gx r hc)))<|eJ r r (fun hc=>eW r (aU (v:=aS) r))<|eJ r r (fun hc=>eW r (aU (v:=aI) r)) ?_
    obtain ⟨x12,hx12,h13⟩:=aE h11
    refine eJ r r (fun hc=>eW r (aCr tT (gx r hc) (gx r hc) (cV hx12 hc)))<|eJ r r (fun hc=>eW r (dU (gx r hc) r))<|og r r r (fun hc=>(cB (gx r hc) r r (fun e=>qB hc (fG e))))<|og r r r (fun hc=>(aU (v:=aB) (gx r hc)))<|eJ r r (fun hc=>eW r (aU (v:=aS) r))<|eJ r r (fun hc=>eW r (aU (v:=aI) r)) ?_
    obtain ⟨x14,hx14,h15⟩:=aE h13
    refine eJ r r (fun hc=>eW r (aCr tT (gx r hc) (gx r hc) (cV hx14 hc)))<|eJ r r (fun hc=>eW r (nO (gx r hc) r))<|og r r r (fun hc=>(cB (gx r hc) r r (fun e=>qB hc (fG e))))<|aQ r (bS r r r (fun e=>fG e))<|aF (fr':=[(0,aS),(12,aI),(13,aI),(36,aB)]) r r<|cC h15 r (fun hb16 h16=>?_) (fun hb16 h16=>?_)
    ·
     refine aJ<|sB r<|aF (fr':=[(2,aB)]) r r<|bE<|bB<|aK<|aK<|bB<|aK<|aK ?_
     have h17:=dN h16 ho6
     have h18:=eA h17 h4
     obtain rfl:=sy h18
     exact bD (rs':=[.tmp 2]) r<|bL (v:=aB) r<|bC<|aR [] r r r lr aC
    ·
     exact bA<|cA<|bT<|aT<|aQ r (dR r r)<|mI r<|cI (fr':=[(0,aS),(12,aI),(13,aI),(36,aB)]) r<|xG _ (sy h16) (bJ [] 0 r r r r ⟨lr,lr,lr,trivial⟩ aC)
   ·
    refine fJ<|bY<|bY<|eC ?_
    have h20:=dN h7 ho6
    exact lF _ (sy h20) (bJ [] 0 r r r r trivial aC)
  ·
   intro j5 hj21
   have h21:=kN hj21 h4
   refine bT<|aJ<|sB r<|aF (fr':=[(2,aB)]) r r<|bE ?_
   obtain rfl:=sy h21
   exact bD (rs':=[.tmp 2]) r<|bL (v:=aB) r<|bC<|aR [] r r r lr aC
noncomputable def iX (p0s:(List UInt8)):Option Bool :=
 some (decide ((4096:Int)<((p0s).length:Int)))
theorem tS {p0s:(List UInt8)}{res:Bool} (h:iX p0s=some res):bR Tryz.prog 179 [.c (.str p0s)] [] (.c (.bool res)) []:=by
 unfold iX at h
 refine cP (fn:=Tryz.f179) [0,2] (by kernel_rfl) Tryz.func179 r (by kernel_rfl) (by kernel_rfl)<|aJ<|sB r<|aF (fr':=[(0,aS)]) r r<|aJ<|mS r<|aQ r (jT tT r)<|aQ r (nO r r)<|sB r<|aF (fr':=[(2,aB)]) r r<|bE ?_
 obtain rfl:=sy h
 exact bD (rs':=[.tmp 2]) r<|bL (v:=aB) r<|bC<|aR [] r r r lr aC
end Go.Proofs.YtnigjppddilpcaaGreatDoor

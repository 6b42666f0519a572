import Derived.Test.YtnigjppddilpcaaGreatDoorGETy
namespace Go.Proofs.YtnigjppddilpcaaGreatDoor
open Go Abs
set_option maxRecDepth 100000
set_option linter.unusedVariables false
set_option linter.unusedSimpArgs false
noncomputable def uP (p0v:aC) (s4:(Int × Int)):Option (cI (Int × Int) Int) :=
 cond (decide (s4.2<((p0v.Keys).length:Int))) ((hG p0v.Keys s4.2).bind fun x6=>some (cI.next ((IntKind.wrap .i64 (s4.1+(IntKind.wrap .i64 (Int.tdiv ((x6).length:Int) (8:Int))))),(IntKind.wrap .i64 (s4.2+(1:Int)))))) (some (cI.out s4.1))
noncomputable def uQ (aFy:aC→Option Int) (p0v:aC) (s13:(Int × Int)):Option (cI (Int × Int) Int) :=
 cond (decide (s13.2<((p0v.Items).length:Int))) ((hG p0v.Items s13.2).bind fun x15=>(aFy x15).bind fun x17=>some (cI.next ((IntKind.wrap .i64 (s13.1+x17)),(IntKind.wrap .i64 (s13.2+(1:Int)))))) (some (cI.out s13.1))
noncomputable def pS:Nat→aC→Option Int
 | 0,_=>none
 | n+1,p0v =>
  ((dR (uP p0v) (((IntKind.wrap .i64 ((IntKind.wrap .i64 ((1:Int)+(IntKind.wrap .i64 (Int.tdiv ((p0v.Text).length:Int) (8:Int)))))+((p0v.Keys).length:Int))),(0:Int)))):Option Int).bind fun x1=>(((dR (uQ (pS n) p0v) ((x1,(0:Int)))):Option Int).bind fun x10=>(some x10))
theorem aGz:∀ n:Nat,(∀ {p0v:aC}{res:Int},pS n p0v=some res→bS Tryz.prog 51 [.agg (AV.cs (cQ p0v))] [] (ci res) []):=by
 intro n
 induction n with
 | zero=>exact fun {p0v res} h=>absurd h (by simp [pS])
 | succ n ih =>
  have ih_law23xsize:=@ih
  intro p0v res h
  rw [pS] at h
  refine cJ (fn:=Tryz.f51) [0,1,2,3,5,7,18,19,20,21,31,32,33,34] (by kernel_rfl) Tryz.func51 r (by kernel_rfl) (by kernel_rfl)<|aH<|fS (v:=.agg bL) (n:=0) (cs:=bL) (σ':=[bL]) r r r r r<|sI r<|aF (fr':=[(1,.box 0 0)]) r r<|aH<|aM r (bD lT r)<|aM r (aK (v:=aS) kD r r r)<|aM r (gL pJ r)<|aM r (aDW r r (by decide))<|aM r (dB r r) ?_
  refine aM r (bD jA r)<|aM r (aK (v:=aL) kM r r r)<|aM r (dI pI (cC r))<|aM r (dB r r)<|sI r<|aF (fr':=[(1,.box 0 0),(3,aI)]) r r<|aP<|aH<|aM r (bD jA r)<|aM r (aK (v:=aL) kM r r r)<|aM r (dI pI (cC r))<|mI r ?_
  refine aF (fr':=[(1,.box 0 0),(3,aI),(18,aL),(19,aI),(20,aI)]) r r ?_
  obtain ⟨x1,hx1,h2⟩:=aE h
  refine eB gF (fun j3=>x1=j3) (fun (j3:Int)=>([(1,.box 0 0),(3,ci j3)]:Fr)) (fun (j3:Int)=>([[ci p0v.Kind,ci p0v.Int,.c (.str p0v.Text),.c (PV.ls 5 bF p0v.Items),.c (PV.ls 1 eA p0v.Keys)]]:St)) ?_ ?_
  ·
   refine bJ<|dV _ (fun (s4:(Int × Int))=>([(1,.box 0 0),(3,ci s4.1),(18,.c (PV.ls 1 eA p0v.Keys)),(19,ci ((p0v.Keys).length:Int)),(20,ci s4.2)]:Fr)) (fun (s4:(Int × Int))=>([[ci p0v.Kind,ci p0v.Int,.c (.str p0v.Text),.c (PV.ls 5 bF p0v.Items),.c (PV.ls 1 eA p0v.Keys)]]:St)) hx1 (aU [] 1 r r r r ⟨lr,lr,lr,lr,lr,trivial⟩ (bW r aA)) ?_
   intro s4 st4 hs4 ho4
   unfold uP at hs4
   refine aH<|aM r (dJ r r)<|aF (fr':=[(1,.box 0 0),(3,aI),(18,aL),(19,aI),(20,aI),(21,aB)]) r r<|aP<|bP hs4 r (fun hb5 h5=>?_) (fun hb5 h5=>?_)
   ·
    refine aW<|bV<|aP<|bJ<|aP<|aQ ?_
    obtain ⟨x6,hx6,h7⟩:=aE h5
    refine aM r (gR (cs:=[PV.str _]) vV (cC r) r hx6 r)<|aM r (eG (p:=PV.str _) kD r r)<|sS r<|aF (fr':=[(1,.box 0 0),(3,aI),(5,aS),(18,aL),(19,aI),(20,aI)]) r r<|aQ<|mI r<|mS r<|aM r (gL pJ r)<|aM r (aDW r r (by decide))<|aM r (dB r r)<|sI r<|cB (fr':=[(1,.box 0 0),(3,aI),(5,aS),(18,aL),(19,aI),(20,aI)]) r<|bX ?_
    exact bV<|aQ<|aM r (dB r r)<|mI r<|cB (fr':=[(1,.box 0 0),(3,aI),(5,aS),(18,aL),(19,aI),(20,aI)]) r<|rX _ (sy h7) (aU [] 1 r r r r ⟨lr,lr,lr,lr,lr,trivial⟩ (bW r aA))
   ·
    refine eK<|bR<|bR<|dC ?_
    have h8:=cS h5 ho4
    exact gD _ (sy h8) (aU [] 1 r r r r ⟨lr,lr,trivial⟩ (bW r aA))
  ·
   intro j3 hj9
   subst hj9
   refine bV<|aP<|aH<|aM r (bD eJ r)<|aM r (aK (v:=aL) iF r r r)<|aM r (dI nH (cC r))<|mI r<|aF (fr':=[(3,aI),(31,aL),(32,aI),(33,aI)]) r r ?_
   obtain ⟨x10,hx10,h11⟩:=aE h2
   refine eB gF (fun j12=>x10=j12) (fun (j12:Int)=>([(3,ci j12)]:Fr)) (fun (j12:Int)=>([[ci p0v.Kind,ci p0v.Int,.c (.str p0v.Text),.c (PV.ls 5 bF p0v.Items),.c (PV.ls 1 eA p0v.Keys)]]:St)) ?_ ?_
   ·
    refine bJ<|dV _ (fun (s13:(Int × Int))=>([(3,ci s13.1),(31,.c (PV.ls 5 bF p0v.Items)),(32,ci ((p0v.Items).length:Int)),(33,ci s13.2)]:Fr)) (fun (s13:(Int × Int))=>([[ci p0v.Kind,ci p0v.Int,.c (.str p0v.Text),.c (PV.ls 5 bF p0v.Items),.c (PV.ls 1 eA p0v.Keys)]]:St)) hx10 (aU [] 1 r r r r ⟨lr,lr,lr,lr,trivial⟩ (bW r aA)) ?_
    intro s13 st13 hs13 ho13
    unfold uQ at hs13
    refine aH<|aM r (dJ r r)<|aF (fr':=[(3,aI),(31,aL),(32,aI),(33,aI),(34,aB)]) r r<|aP<|bP hs13 r (fun hb14 h14=>?_) (fun hb14 h14=>?_)
    ·
     refine aW<|bV<|aP<|bJ<|aP<|aQ ?_
     obtain ⟨x15,hx15,h16⟩:=aE h14
     refine aM r (gR (cs:=[PV.int _ _,PV.int _ _,PV.str _,PV.ls _ _ _,PV.ls _ _ _]) mP (cC r) r hx15 (cE _))<|aM r (gM (us:=[PV.int _ _,PV.int _ _,PV.str _,PV.ls _ _ _,PV.ls _ _ _]) fM r r r)<|gC (n:=1) (cs:=bT) (σ':=[bL,bT]) aCi r r r<|bU (v:=.agg bL) (us:=bL) (cs:=bT) (σ':=[bL,bL]) r fM r r r r r r r r<|aF (fr':=[(3,aI),(7,.box 1 0),(31,aL),(32,aI),(33,aI)]) r r<|aQ<|mI r<|aM r (cN (us:=bL) fM r r r r) ?_
     obtain ⟨x17,hx17,h18⟩:=aE h16
     exact gV (aX (v:=aI) r (ih_law23xsize hx17) ⟨(bK r ⟨r,r,r,r,r,trivial⟩),trivial⟩ r r r)<|aM r (dB r r)<|sI r<|cB (fr':=[(3,aI),(7,.box 1 0),(31,aL),(32,aI),(33,aI)]) r<|bX<|bV<|aQ<|aM r (dB r r)<|mI r<|cB (fr':=[(3,aI),(7,.box 1 0),(31,aL),(32,aI),(33,aI)]) r<|rX _ (sy h18) (aU [] 1 r r r r ⟨lr,lr,lr,lr,trivial⟩ (bW r aA))
    ·
     refine eK<|bR<|bR<|dC ?_
     have h19:=cS h14 ho13
     exact gD _ (sy h19) (aU [] 1 r r r r ⟨lr,trivial⟩ (bW r aA))
   ·
    intro j12 hj20
    subst hj20
    refine bV<|aH<|mI r<|sI r<|aF (fr':=[(2,aI)]) r r<|bC ?_
    obtain rfl:=sy h11
    exact bB (rs':=[.tmp 2]) r<|bH (v:=aI) r<|aZ<|aN [] r r r lr aA
noncomputable def aBZ (p0v:aC):Option Int:=lim fun n=>pS n p0v
theorem aIc {p0v:aC}{res:Int} (h:aBZ p0v=some res):bS Tryz.prog 51 [.agg (AV.cs (cQ p0v))] [] (ci res) []:=by
 obtain ⟨n,hn⟩:=jZ h
 exact (aGz n) hn
noncomputable def sY (x8:bI) (s19:Int):Option (cI Int (Fl (cI Int (Fl Bool Unit)) Unit)) :=
 cond (decide (s19<((x8.Opts.Fatal).length:Int))) ((hG x8.Opts.Fatal s19).bind fun x21=>cond (decide ((300:Int)<((x21).length:Int))) (some (cI.out (Fl.done (cI.out (Fl.done true))))) (some (cI.next (IntKind.wrap .i64 (s19+(1:Int)))))) (some (cI.out (Fl.go ())))
noncomputable def sX (p0l:(List bI)) (s6:Int):Option (cI Int (Fl Bool Unit)) :=
 cond (decide (s6<((p0l).length:Int))) ((hG p0l s6).bind fun x8=>(gd ((cond (decide ((500:Int)<(IntKind.wrap .i64 ((IntKind.wrap .i64 (((x8.Name).length:Int)+((x8.Key).length:Int)))+((x8.Opts.Queue).length:Int))))) true (decide ((70:Int)<((x8.Opts.Fatal).length:Int))))==false) (aBZ x8.Data)).bind fun x10=>cond (cond (cond (decide ((500:Int)<(IntKind.wrap .i64 ((IntKind.wrap .i64 (((x8.Name).length:Int)+((x8.Key).length:Int)))+((x8.Opts.Queue).length:Int))))) true (decide ((70:Int)<((x8.Opts.Fatal).length:Int)))) true (decide ((200:Int)<x10))) (some (cI.out (Fl.done true))) (((dR (sY x8) ((0:Int))):Option (Fl (cI Int (Fl Bool Unit)) Unit)).bind fun x16=>Fl.next x16 (fun j18=>(some (cI.next (IntKind.wrap .i64 (s6+(1:Int)))))))) (some (cI.out (Fl.go ())))
noncomputable def nL (p0l:(List bI)):Option Bool :=
 cond (decide ((40:Int)<((p0l).length:Int))) (some true) (((dR (sX p0l) ((0:Int))):Option (Fl Bool Unit)).bind fun x3=>Fl.next x3 (fun j5=>(some false)))
theorem yF {p0l:(List bI)}{res:Bool} (h:nL p0l=some res):bS Tryz.prog 15 [.c (PV.ls 24 cD p0l)] [] (.c (.bool res)) []:=by
 unfold nL at h
 refine cJ (fn:=Tryz.f15) [0,2,4,6,9,10,11,12,13,41,44,45,46,47,52] (by kernel_rfl) Tryz.func15 r (by kernel_rfl) (by kernel_rfl)<|aH<|sB r<|aF (fr':=[(0,aL)]) r r<|aP<|aH<|mL r<|aM r (dI aDz (cC r))<|aM r (kA r r)<|aF (fr':=[(0,aL),(9,aB)]) r r<|bP h r (fun hb1 h1=>?_) (fun hb1 h1=>?_)
 ·
  refine aH<|sB r<|aF (fr':=[(2,aB)]) r r<|bC<|aJ ?_
  obtain rfl:=sy h1
  exact bB (rs':=[.tmp 2]) r<|bH (v:=aB) r<|aZ<|aN [] r r r lr aA
 ·
  refine aW<|bV<|aP<|aH<|mL r<|aM r (dI aDz (cC r))<|mI r<|aF (fr':=[(10,aL),(11,aI),(12,aI)]) r r ?_
  obtain ⟨x3,hx3,h4⟩:=aE h1
  refine eB gF (fun j5=>x3=Fl.go j5) (fun (j5:Unit)=>([]:Fr)) (fun (j5:Unit)=>([]:St)) ?_ ?_
  ·
   refine bJ<|dV _ (fun (s6:Int)=>([(10,.c (PV.ls 24 cD p0l)),(11,ci ((p0l).length:Int)),(12,ci s6)]:Fr)) (fun (s6:Int)=>([]:St)) hx3 (aU [] 0 r r r r ⟨lr,lr,lr,trivial⟩ aA) ?_
   intro s6 st6 hs6 ho6
   unfold sX at hs6
   refine aH<|aM r (dJ r r)<|aF (fr':=[(10,aL),(11,aI),(12,aI),(13,aB)]) r r<|aP<|bP hs6 r (fun hb7 h7=>?_) (fun hb7 h7=>?_)
   ·
    refine aW<|bV<|aP<|bJ<|aP<|aQ ?_
    obtain ⟨x8,hx8,h9⟩:=aE h7
    refine aM r (gR (cs:=[PV.int _ _,PV.int _ _,PV.int _ _,PV.int _ _,PV.int _ _,PV.int _ _,PV.int _ _,PV.str _,PV.str _,PV.int _ _,PV.int _ _,PV.str _,PV.ls _ _ _,PV.ls _ _ _,PV.str _,PV.int _ _,PV.int _ _,PV.int _ _,PV.int _ _,PV.int _ _,PV.int _ _,PV.int _ _,PV.int _ _,PV.ls _ _ _]) aEe (cC r) r hx8 r)<|aM r (gM (us:=[PV.int _ _,PV.int _ _,PV.int _ _,PV.int _ _,PV.int _ _,PV.int _ _,PV.int _ _,PV.str _,PV.str _,PV.int _ _,PV.int _ _,PV.str _,PV.ls _ _ _,PV.ls _ _ _,PV.str _,PV.int _ _,PV.int _ _,PV.int _ _,PV.int _ _,PV.int _ _,PV.int _ _,PV.int _ _,PV.int _ _,PV.ls _ _ _]) qF r r r)<|gC (n:=0) (cs:=aG) (σ':=[aG]) aJB r r r<|bU (v:=.agg aD) (us:=aD) (cs:=aG) (σ':=[aD]) r qF r r r r r r r r<|aF (fr':=[(4,.box 0 0),(10,aL),(11,aI),(12,aI)]) r r<|aP<|aH<|aM r (bD oW r)<|aM r (aK (v:=aS) kD r r r)<|aM r (gL pJ r)<|aM r (bD oX r)<|aM r (aK (v:=aS) kD r r r) ?_
    refine aM r (gL pJ r)<|aM r (dB r r)<|aM r (bD rW r)<|aM r (bD vT r)<|aM r (aK (v:=aS) kD r r r)<|aM r (gL pJ r)<|aM r (dB r r)<|aM r (kA r r)<|mB r<|og r r r (fun hc=>(bD rW r))<|og r r r (fun hc=>(bD lI (gx r hc)))<|og r r r (fun hc=>(aK (v:=aL) kM (gx r hc) r r))<|og r r r (fun hc=>(dI pI (cC (gx r hc)))) ?_
    refine og r r r (fun hc=>(kA (gx r hc) r))<|aM r (bY r r r (fun e=>eO e))<|mB r<|og r r r (fun hc=>(bD tV r))<|og r r r (fun hc=>(cN (us:=bL) fM (gx r hc) r r r)) ?_
    obtain ⟨x10,hx10,h11⟩:=aE h9
    refine sM r r (fun hc=>aX (v:=aI) r (aIc (cA hx10 hc)) ⟨(eH (gx r hc) (bK r ⟨r,r,r,r,r,trivial⟩)),trivial⟩ (fA (by repeat (first | exact dX | refine aY r ?_ | refine aY (oS r) ?_ | refine aY oR ?_))) r r) ?_
    refine og r r r (fun hc=>(kA (gx r hc) r))<|aM r (bY r r r (fun e=>eO e))<|aF (fr':=[(4,.box 0 0),(10,aL),(11,aI),(12,aI),(41,aB)]) r r<|bP h11 r (fun hb12 h12=>?_) (fun hb12 h12=>?_)
    ·
     refine aH<|sB r<|aF (fr':=[(2,aB)]) r r<|bC<|aJ<|bA<|aJ<|aJ<|bA<|aJ<|aJ ?_
     have h13:=cS h12 ho6
     have h14:=dQ h13 h4
     obtain rfl:=sy h14
     exact bB (rs':=[.tmp 2]) r<|bH (v:=aB) r<|aZ<|aN [] r r r lr aA
    ·
     refine aW<|bV<|aH<|aM r (bD rW r)<|aM r (bD lI r)<|aM r (aK (v:=aL) kM r r r)<|aM r (dI pI (cC r))<|mI r<|aF (fr':=[(10,aL),(11,aI),(12,aI),(44,aL),(45,aI),(46,aI)]) r r ?_
     obtain ⟨x16,hx16,h17⟩:=aE h12
     refine eB (aOw gF) (fun j18=>x16=Fl.go j18) (fun (j18:Unit)=>([(10,.c (PV.ls 24 cD p0l)),(11,ci ((p0l).length:Int)),(12,ci s6)]:Fr)) (fun (j18:Unit)=>([[ci x8.ID,ci x8.Kind,ci x8.Time,ci x8.Seq,ci x8.Ref,ci x8.N,ci x8.Code,.c (.str x8.Name),.c (.str x8.Key),ci x8.Data.Kind,ci x8.Data.Int,.c (.str x8.Data.Text),.c (PV.ls 5 bF x8.Data.Items),.c (PV.ls 1 eA x8.Data.Keys),.c (.str x8.Opts.Queue),ci x8.Opts.ToStart,ci x8.Opts.ToClose,ci x8.Opts.Total,ci x8.Opts.Beat,ci x8.Opts.First,ci x8.Opts.Coef,ci x8.Opts.Most,ci x8.Opts.Attempts,.c (PV.ls 1 eA x8.Opts.Fatal)]]:St)) ?_ ?_
     ·
      refine bJ<|dV _ (fun (s19:Int)=>([(10,.c (PV.ls 24 cD p0l)),(11,ci ((p0l).length:Int)),(12,ci s6),(44,.c (PV.ls 1 eA x8.Opts.Fatal)),(45,ci ((x8.Opts.Fatal).length:Int)),(46,ci s19)]:Fr)) (fun (s19:Int)=>([[ci x8.ID,ci x8.Kind,ci x8.Time,ci x8.Seq,ci x8.Ref,ci x8.N,ci x8.Code,.c (.str x8.Name),.c (.str x8.Key),ci x8.Data.Kind,ci x8.Data.Int,.c (.str x8.Data.Text),.c (PV.ls 5 bF x8.Data.Items),.c (PV.ls 1 eA x8.Data.Keys),.c (.str x8.Opts.Queue),ci x8.Opts.ToStart,ci x8.Opts.ToClose,ci x8.Opts.Total,ci x8.Opts.Beat,ci x8.Opts.First,ci x8.Opts.Coef,ci x8.Opts.Most,ci x8.Opts.Attempts,.c (PV.ls 1 eA x8.Opts.Fatal)]]:St)) hx16 (aU [] 1 r r r r ⟨lr,lr,lr,lr,lr,lr,trivial⟩ (bW r aA)) ?_
      intro s19 st19 hs19 ho19
      unfold sY at hs19
      refine aH<|aM r (dJ r r)<|aF (fr':=[(10,aL),(11,aI),(12,aI),(44,aL),(45,aI),(46,aI),(47,aB)]) r r<|aP<|bP hs19 r (fun hb20 h20=>?_) (fun hb20 h20=>?_)
      ·
       refine aW<|bV<|aP<|bJ<|aP<|aQ ?_
       obtain ⟨x21,hx21,h22⟩:=aE h20
       refine aM r (gR (cs:=[PV.str _]) vV (cC r) r hx21 r)<|aM r (eG (p:=PV.str _) kD r r)<|sS r<|aF (fr':=[(6,aS),(10,aL),(11,aI),(12,aI),(44,aL),(45,aI),(46,aI)]) r r<|aH<|mS r<|aM r (gL pJ r)<|aM r (kA r r)<|aF (fr':=[(10,aL),(11,aI),(12,aI),(44,aL),(45,aI),(46,aI),(52,aB)]) r r<|bP h22 r (fun hb23 h23=>?_) (fun hb23 h23=>?_)
       ·
        refine aH<|sB r<|aF (fr':=[(2,aB)]) r r<|bC<|bA<|aJ<|aJ<|bA<|aJ<|bA<|aJ<|aJ ?_
        refine bA<|aJ<|aJ ?_
        have h24:=cS h23 ho19
        have h25:=dQ h24 h17
        have h26:=cS h25 ho6
        have h27:=dQ h26 h4
        obtain rfl:=sy h27
        exact bB (rs':=[.tmp 2]) r<|bH (v:=aB) r<|aZ<|aN [] r r r lr aA
       ·
        exact aW<|bX<|bV<|aQ<|aM r (dB r r)<|mI r<|cB (fr':=[(10,aL),(11,aI),(12,aI),(44,aL),(45,aI),(46,aI),(52,aB)]) r<|rX _ (sy h23) (aU [] 1 r r r r ⟨lr,lr,lr,lr,lr,lr,trivial⟩ (bW r aA))
      ·
       refine eK<|bR<|bR<|dC ?_
       have h29:=cS h20 ho19
       exact gD _ (sy h29) (aU [] 1 r r r r ⟨lr,lr,lr,trivial⟩ (bW r aA))
     ·
      intro j18 hj30
      have h30:=iC hj30 h17
      exact bX<|bV<|aQ<|aM r (dB r r)<|mI r<|cB (fr':=[(10,aL),(11,aI),(12,aI)]) r<|rX _ (sy h30) (aU [] 0 r r r r ⟨lr,lr,lr,trivial⟩ aA)
   ·
    refine eK<|bR<|bR<|dC ?_
    have h31:=cS h7 ho6
    exact gD _ (sy h31) (aU [] 0 r r r r trivial aA)
  ·
   intro j5 hj32
   have h32:=iC hj32 h4
   refine bV<|aH<|sB r<|aF (fr':=[(2,aB)]) r r<|bC ?_
   obtain rfl:=sy h32
   exact bB (rs':=[.tmp 2]) r<|bH (v:=aB) r<|aZ<|aN [] r r r lr aA
noncomputable def gA (p0s:(List UInt8)):Option (List UInt8) :=
 app 1 ([]:List UInt8) p0s
theorem jQ {p0s:(List UInt8)}{res:(List UInt8)} (h:gA p0s=some res):bS Tryz.prog 70 [.c (PV.ls 1 dF p0s)] [] (AV.os 0 1 dF res) []:=by
 unfold gA at h
 refine cJ (fn:=Tryz.f70) [0,2,4] (by kernel_rfl) Tryz.func70 r (by kernel_rfl) (by kernel_rfl) ?_
 obtain ⟨hm,he⟩:=aAy h
 rw [List.nil_append] at he
 subst he
 refine aH<|aM r (aCL (v:=.nil) r)<|cB (fr':=[(0,.c (PV.ls _ _ _)),(2,.nil)]) r<|bV<|aP<|aH<|aM r (bE (v:=.c (PV.ls _ _ _)) r)<|aQa (row:=dF) sD (cC r) (fun b hb=>?_)
 refine cB (fr':=[(0,.c (PV.ls _ _ _)),(2,.nil),(4,.c (.bool _))]) r<|bV<|aIa b r (fun e=>?_) (fun e=>?_)
 ·
  rw [hb e]
  exact aH<|aM r (aCL (v:=.nil) r)<|cB (fr':=[(0,.c (PV.ls _ _ _)),(2,.nil),(4,.c (.bool _))]) r<|bV<|bC<|aJ<|bB (rs':=[.tmp 2]) r<|bH (v:=.nil) r<|aZ<|aN [] r r r (vR r) aA
 ·
  refine aW<|bV<|aH<|kT (row:=dF) (xs:=([]:List UInt8)) (rows:=[]) (σ':=[]) [] pK r r r gY r r<|aM r (bE (v:=.c (PV.ls _ _ _)) r)<|wX (row:=dF) pK r sD r (cC r) (fun _=>r) h<|aM r (aCL (v:=AV.os _ _ _ _) r)<|cB (fr':=[(0,.c (PV.ls _ _ _)),(2,AV.os _ _ _ _),(4,.c (.bool _))]) r<|bV<|bC<|bB (rs':=[.tmp 2]) r<|bH (v:=AV.os _ _ _ _) r ?_
  exact aZ<|aN [112] r r r lr aA
noncomputable def uC  (s6:((List UInt8) × Int)):Option (cI ((List UInt8) × Int) ((List UInt8) × Int)) :=
 cond (decide ((128:Int)≤s6.2)) ((lF (fV .or .u8 (IntKind.wrap .u8 s6.2) (128:Int))).bind fun x8=>(app 1 s6.1 ([x8]:List UInt8)).bind fun x10=>some (cI.next (x10,(Int.fdiv s6.2 (2 ^ (min (Int.toNat (7:Int)) (IntKind.bits .u64))))))) (some (cI.out (s6.1,s6.2)))
noncomputable def fW (p0b:(List UInt8)) (p1n:Int):Option (List UInt8) :=
 (gA p0b).bind fun x1=>((dR (uC) ((x1,(fV .xor .u64 (IntKind.wrap .u64 ((IntKind.wrap .u64 p1n)*2 ^ (min (Int.toNat (1:Int)) (IntKind.bits .u64)))) (IntKind.wrap .u64 (Int.fdiv p1n (2 ^ (min (Int.toNat (63:Int)) (IntKind.bits .i64))))))))):Option ((List UInt8) × Int)).bind fun x3=>((lF (IntKind.wrap .u8 x3.2)).bind fun x14=>(app 1 x3.1 ([x14]:List UInt8)).bind fun x16=>some x16)
theorem gB {p0b:(List UInt8)}{p1n:Int}{res:(List UInt8)} (h:fW p0b p1n=some res):bS Tryz.prog 53 [.c (PV.ls 1 dF p0b),ci p1n] [] (AV.os 0 1 dF res) []:=by
 unfold fW at h
 refine cJ (fn:=Tryz.f53) [0,1,4,5,6,17] (by kernel_rfl) Tryz.func53 r (by kernel_rfl) (by kernel_rfl)<|aH<|sV (v:=AV.nil) r<|aF (fr':=[(0,aL),(1,aI)]) r r<|aH<|mL r ?_
 obtain ⟨x1,hx1,h2⟩:=aE h
 refine gV (aX (v:=aO) r (jQ hx1) ⟨lr,trivial⟩ r r r)<|sV (v:=aO) r<|aF (fr':=[(1,aI),(5,aO)]) r r<|aH<|mI r<|aM r (kL tk3 aAY r)<|aM r (aPE r r (by decide))<|mI r<|aM r (aFq r r (by decide))<|aM r (kL tk3 aAY r)<|aM r (aG8 r r)<|sI r ?_
 refine aF (fr':=[(5,aO),(6,aI)]) r r ?_
 obtain ⟨x3,hx3,h4⟩:=aE h2
 refine fY (fun j5=>x3=j5) (fun (j5:((List UInt8) × Int))=>([(5,AV.os 0 1 dF j5.1),(6,.c (.int .u64 j5.2))]:Fr)) (fun (j5:((List UInt8) × Int))=>([]:St)) ?_ ?_
 ·
  refine bJ<|dV _ (fun (s6:((List UInt8) × Int))=>([(5,AV.os 0 1 dF s6.1),(6,.c (.int .u64 s6.2))]:Fr)) (fun (s6:((List UInt8) × Int))=>([]:St)) hx3 (aU [128] 0 r r r r ⟨lr,lr,trivial⟩ aA) ?_
  intro s6 st6 hs6 ho6
  unfold uC at hs6
  refine aP<|aH<|mI r<|aM r (nM r r)<|aF (fr':=[(5,aO),(6,aI),(17,aB)]) r r<|bP hs6 r (fun hb7 h7=>?_) (fun hb7 h7=>?_)
  ·
   refine aW<|bV<|bJ<|aH<|mV (v:=aO) r<|mI r<|aM r (kL aAY tk5 r)<|aM r (aRm r r) ?_
   obtain ⟨x8,hx8,h9⟩:=aE h7
   refine kT (row:=dF) (xs:=([x8]:List UInt8)) (rows:=[[_]]) (σ':=[]) [0] pK r r r (cM (uN hx8) gY) r r ?_
   obtain ⟨x10,hx10,h11⟩:=aE h9
   exact wX (row:=dF) pK r sD r (lG r) (fun _=>r) hx10<|sV (v:=aO) r<|aF (fr':=[(5,aO),(6,aI)]) r r<|aQ<|mI r<|aM r (aFq r r (by decide))<|sI r<|cB (fr':=[(5,aO),(6,aI)]) r<|bX<|rX _ (sy h11) (aU [368] 0 r r r r ⟨lr,lr,trivial⟩ aA)
  ·
   refine eK<|bR<|bR<|dC ?_
   have h12:=cS h7 ho6
   exact gD _ (sy h12) (aU [0] 0 r r r r ⟨lr,lr,trivial⟩ aA)
 ·
  intro j5 hj13
  subst hj13
  refine aH<|mV (v:=aO) r<|mI r<|aM r (kL aAY tk5 r) ?_
  obtain ⟨x14,hx14,h15⟩:=aE h4
  refine kT (row:=dF) (xs:=([x14]:List UInt8)) (rows:=[[_]]) (σ':=[]) [0] pK r r r (cM (uN hx14) gY) r r ?_
  obtain ⟨x16,hx16,h17⟩:=aE h15
  refine wX (row:=dF) pK r sD r (lG r) (fun _=>r) hx16<|sV (v:=aO) r<|aF (fr':=[(4,aO)]) r r<|bC ?_
  obtain rfl:=sy h17
  exact bB (rs':=[.tmp 4]) r<|bH (v:=aO) r<|aZ<|aN [480] r r r lr aA
noncomputable def iU (p0b:(List UInt8)) (p1s:(List UInt8)):Option (List UInt8) :=
 (fW p0b ((p1s).length:Int)).bind fun x1=>(app 1 x1 p1s).bind fun x3=>some x3
theorem nJ {p0b:(List UInt8)}{p1s:(List UInt8)}{res:(List UInt8)} (h:iU p0b p1s=some res):bS Tryz.prog 54 [.c (PV.ls 1 dF p0b),.c (.str p1s)] [] (AV.os 0 1 dF res) []:=by
 unfold iU at h
 refine cJ (fn:=Tryz.f54) [0,1,4] (by kernel_rfl) Tryz.func54 r (by kernel_rfl) (by kernel_rfl)<|aH<|sV (v:=AV.nil) r<|aF (fr':=[(0,aL),(1,aS)]) r r<|aH<|mL r<|mS r<|aM r (gL pJ r) ?_
 obtain ⟨x1,hx1,h2⟩:=aE h
 refine gV (aX (v:=aO) r (gB hx1) ⟨lr,lr,trivial⟩ r r r)<|mS r ?_
 obtain ⟨x3,hx3,h4⟩:=aE h2
 refine aP8 pK r pJ r r hx3<|sV (v:=aO) r<|aF (fr':=[(4,aO)]) r r<|bC ?_
 obtain rfl:=sy h4
 exact bB (rs':=[.tmp 4]) r<|bH (v:=aO) r<|aZ<|aN [160] r r r lr aA
noncomputable def nV (p0l:(List (List UInt8))) (s4:Int):Option (cI Int (Fl Bool Unit)) :=
 cond (decide (s4<((p0l).length:Int))) ((hG p0l (IntKind.wrap .i64 (s4 - (1:Int)))).bind fun x6=>(hG p0l s4).bind fun x8=>cond (!Op.bytesLess x6 x8) (some (cI.out (Fl.done false))) (some (cI.next (IntKind.wrap .i64 (s4+(1:Int)))))) (some (cI.out (Fl.go ())))
noncomputable def oK (p0l:(List (List UInt8))):Option Bool :=
 ((dR (nV p0l) ((1:Int))):Option (Fl Bool Unit)).bind fun x1=>Fl.next x1 (fun j3=>(some true))
theorem aC5 {p0l:(List (List UInt8))}{res:Bool} (h:oK p0l=some res):bS Tryz.prog 175 [.c (PV.ls 1 eA p0l)] [] (.c (.bool res)) []:=by
 unfold oK at h
 refine cJ (fn:=Tryz.f175) [0,2,3,7,19] (by kernel_rfl) Tryz.func175 r (by kernel_rfl) (by kernel_rfl)<|aH<|sB r<|aF (fr':=[(0,aL)]) r r<|aP<|aH<|sI r<|aF (fr':=[(0,aL),(3,aI)]) r r ?_
 obtain ⟨x1,hx1,h2⟩:=aE h
 refine eB gF (fun j3=>x1=Fl.go j3) (fun (j3:Unit)=>([]:Fr)) (fun (j3:Unit)=>([]:St)) ?_ ?_
 ·
  refine bJ<|dV _ (fun (s4:Int)=>([(0,.c (PV.ls 1 eA p0l)),(3,ci s4)]:Fr)) (fun (s4:Int)=>([]:St)) hx1 (aU [] 0 r r r r ⟨lr,lr,trivial⟩ aA) ?_
  intro s4 st4 hs4 ho4
  unfold nV at hs4
  refine aP<|aH<|mI r<|mL r<|aM r (dI pI (cC r))<|aM r (dJ r r)<|aF (fr':=[(0,aL),(3,aI),(7,aB)]) r r<|bP hs4 r (fun hb5 h5=>?_) (fun hb5 h5=>?_)
  ·
   refine aW<|bV<|aP<|bJ<|aP<|hF [.q 0,.q 1,.q 2,.q 3,.q 4,.q 5,.q 6,.q 7,.q 8,.q 9] [(some 10,[0]),(some 11,[3]),(some 12,[11]),(some 13,[10,12]),(some 14,[13]),(some 15,[0]),(some 16,[3]),(some 17,[15,16]),(some 18,[17]),(some 19,[14,18])] [0,0,2,7,15,0,0,96,224,511] (by kernel_rfl)<|dq r r (bE (v:=aL) r)<|dq r r (bE (v:=aI) r)<|dq r r (aFr r r) ?_
   obtain ⟨x6,hx6,h7⟩:=aE h5
   refine dq r r (gR (cs:=[PV.str _]) vV (cC r) r hx6 r)<|dq r r (eG (p:=PV.str _) kD r r)<|dq r r (bE (v:=aL) r)<|dq r r (bE (v:=aI) r) ?_
   obtain ⟨x8,hx8,h9⟩:=aE h7
   refine dq r r (gR (cs:=[PV.str _]) vV (cC r) r hx8 r)<|dq r r (eG (p:=PV.str _) kD r r)<|dq r r (aNj r r)<|uE (fr':=[(0,aL),(3,aI),(19,aB)]) r r<|bP h9 r (fun hb10 h10=>?_) (fun hb10 h10=>?_)
   ·
    refine aH<|sB r<|aF (fr':=[(2,aB)]) r r<|bC<|bA<|aJ<|aJ<|bA<|aJ<|aJ ?_
    have h11:=cS h10 ho4
    have h12:=dQ h11 h2
    obtain rfl:=sy h12
    exact bB (rs':=[.tmp 2]) r<|bH (v:=aB) r<|aZ<|aN [] r r r lr aA
   ·
    exact aW<|bX<|bV<|aQ<|mI r<|aM r (dB r r)<|sI r<|cB (fr':=[(0,aL),(3,aI),(19,aB)]) r<|rX _ (sy h10) (aU [] 0 r r r r ⟨lr,lr,trivial⟩ aA)
  ·
   refine eK<|bR<|bR<|dC ?_
   have h14:=cS h5 ho4
   exact gD _ (sy h14) (aU [] 0 r r r r trivial aA)
 ·
  intro j3 hj15
  have h15:=iC hj15 h2
  refine bV<|aH<|sB r<|aF (fr':=[(2,aB)]) r r<|bC ?_
  obtain rfl:=sy h15
  exact bB (rs':=[.tmp 2]) r<|bH (v:=aB) r<|aZ<|aN [] r r r lr aA
noncomputable def dS (aB3:aC→Bool→Option Bool) (p0s:(List aC)) (gJ:Bool) (s4:Int):Option (cI Int (Fl Int Unit)) :=
 cond (decide (s4<((p0s).length:Int))) ((hG p0s s4).bind fun x6=>(aB3 x6 gJ).bind fun x8=>cond x8 (some (cI.out (Fl.done s4))) (some (cI.next (IntKind.wrap .i64 (s4+(1:Int)))))) (some (cI.out (Fl.go ())))
mutual
noncomputable def cV:Nat→(List aC)→Bool→Option Bool
 | 0,_,_=>none
 | n+1,p0s,gJ =>
  ((dY n) p0s gJ).bind fun x1=>some (decide ((0:Int)≤x1))
noncomputable def dY:Nat→(List aC)→Bool→Option Int
 | 0,_,_=>none
 | n+1,p0s,gJ =>
  ((dR (dS (lU n) p0s gJ) ((0:Int))):Option (Fl Int Unit)).bind fun x1=>Fl.next x1 (fun j3=>(some (-1:Int)))
noncomputable def mN:Nat→aC→Bool→Option Bool
 | 0,_,_=>none
 | n+1,p0C,p1o =>
  ((cond (decide (p0C.Kind=(0:Int))) (some (Fl.done (cond (cond (cond (!(!decide (p0C.Int=(0:Int)))) (!(!decide (p0C.Text=([]:List UInt8)))) false) (!(decide ((0:Int)<((p0C.Items).length:Int)))) false) (!(decide ((0:Int)<((p0C.Keys).length:Int)))) false))) (cond (decide (p0C.Kind=(1:Int))) (some (Fl.done (cond (cond (cond (cond (decide (p0C.Int=(0:Int))) true (decide (p0C.Int=(1:Int)))) (!(!decide (p0C.Text=([]:List UInt8)))) false) (!(decide ((0:Int)<((p0C.Items).length:Int)))) false) (!(decide ((0:Int)<((p0C.Keys).length:Int)))) false))) (cond (decide (p0C.Kind=(2:Int))) (some (Fl.done (cond (cond (!(!decide (p0C.Text=([]:List UInt8)))) (!(decide ((0:Int)<((p0C.Items).length:Int)))) false) (!(decide ((0:Int)<((p0C.Keys).length:Int)))) false))) (cond (decide (p0C.Kind=(6:Int))) (some (Fl.done (cond (cond (cond (cond p1o (decide ((0:Int)≤p0C.Int)) false) (!(!decide (p0C.Text=([]:List UInt8)))) false) (!(decide ((0:Int)<((p0C.Items).length:Int)))) false) (!(decide ((0:Int)<((p0C.Keys).length:Int)))) false))) (cond (decide (p0C.Kind=(3:Int))) (some (Fl.done (cond (cond (!(!decide (p0C.Int=(0:Int)))) (!(decide ((0:Int)<((p0C.Items).length:Int)))) false) (!(decide ((0:Int)<((p0C.Keys).length:Int)))) false))) (cond (decide (p0C.Kind=(4:Int))) (cond (cond (cond (!decide (p0C.Int=(0:Int))) true (!decide (p0C.Text=([]:List UInt8)))) true (decide ((0:Int)<((p0C.Keys).length:Int)))) (some (Fl.done false)) (some (Fl.go ()))) (cond (decide (p0C.Kind=(5:Int))) ((gd ((cond (cond (!decide (p0C.Int=(0:Int))) true (!decide (p0C.Text=([]:List UInt8)))) true (!decide (((p0C.Keys).length:Int)=((p0C.Items).length:Int))))==false) (oK p0C.Keys)).bind fun x24=>cond (cond (cond (cond (!decide (p0C.Int=(0:Int))) true (!decide (p0C.Text=([]:List UInt8)))) true (!decide (((p0C.Keys).length:Int)=((p0C.Items).length:Int)))) true (!x24)) (some (Fl.done false)) (some (Fl.go ()))) (some (Fl.done false))))))))):Option (Fl Bool Unit)).bind fun x1=>Fl.next x1 (fun j3=>(((cV n) p0C.Items p1o).bind fun x32=>some (!x32)))
noncomputable def lU:Nat→aC→Bool→Option Bool
 | 0,_,_=>none
 | n+1,p0x,gJ =>
  ((mN n) p0x gJ).bind fun x1=>some (!x1)
end
theorem jP:∀ n:Nat,(∀ {p0s:(List aC)}{gJ:Bool}{res:Bool},cV n p0s gJ=some res→bS Tryz.prog 176 [.c (PV.ls 5 bF p0s),.fn 177 [.box 0 0]] [[.c (.bool gJ)]] (.c (.bool res)) [[.c (.bool gJ)]])∧(∀ {p0s:(List aC)}{gJ:Bool}{res:Int},dY n p0s gJ=some res→bS Tryz.prog 205 [.c (PV.ls 5 bF p0s),.fn 177 [.box 0 0]] [[.c (.bool gJ)]] (ci res) [[.c (.bool gJ)]])∧(∀ {p0C:aC}{p1o:Bool}{res:Bool},mN n p0C p1o=some res→bS Tryz.prog 128 [.agg (AV.cs (cQ p0C)),.c (.bool p1o)] [] (.c (.bool res)) [])∧(∀ {p0x:aC}{gJ:Bool}{res:Bool},lU n p0x gJ=some res→bS Tryz.prog 177 [.agg (AV.cs (cQ p0x)),.box 0 0] [[.c (.bool gJ)]] (.c (.bool res)) [[.c (.bool gJ)]]):=by
 intro n
 induction n with
 | zero=>exact ⟨fun {p0s gJ res} h=>absurd h (by simp [cV]),fun {p0s gJ res} h=>absurd h (by simp [dY]),fun {p0C p1o res} h=>absurd h (by simp [mN]),fun {p0x gJ res} h=>absurd h (by simp [lU])⟩
 | succ n ih =>
  obtain ⟨ih_slices_ContainsFunc_api_Value_api_Value_value_formed_1,ih_slices_IndexFunc_api_Value_api_Value_value_formed_1,ih_value_formed,ih_value_formed_1⟩:=ih
  refine ⟨?_,?_,?_,?_⟩
  ·
   intro p0s gJ res h
   rw [cV] at h
   refine cJ (fn:=Tryz.f176) [0,1,4] (by kernel_rfl) Tryz.func176 r (by kernel_rfl) (by kernel_rfl)<|aH<|sB r<|aF (fr':=[(0,aL),(1,.fn _ [.box 0 0])]) r r<|aH<|mL r<|mV (v:=.fn _ [.box 0 0]) r ?_
   obtain ⟨x1,hx1,h2⟩:=aE h
   refine eD (v:=aI) (σ':=[[aB]]) [0] r (ih_slices_IndexFunc_api_Value_api_Value_value_formed_1 hx1) r r ⟨lr,(aM9 r ⟨lr,trivial⟩),trivial⟩ (wG ⟨lr,trivial⟩ aA) r r r<|aM r (nM r r)<|sB r<|aF (fr':=[(4,aB)]) r r<|bC ?_
   obtain rfl:=sy h2
   exact bB (rs':=[.tmp 4]) r<|bH (v:=aB) r<|aZ<|aN [] r r r lr (bW r aA)
  ·
   intro p0s gJ res h
   rw [dY] at h
   refine cJ (fn:=Tryz.f205) [0,1,4,5,7,8,9,16] (by kernel_rfl) Tryz.func205 r (by kernel_rfl) (by kernel_rfl)<|aH<|sI r<|aF (fr':=[(0,aL),(1,.fn _ [.box 0 0])]) r r<|aP<|aH<|mL r<|aM r (dI nH (cC r))<|mI r<|aF (fr':=[(0,aL),(1,.fn _ [.box 0 0]),(7,aI),(8,aI)]) r r ?_
   obtain ⟨x1,hx1,h2⟩:=aE h
   refine eB gF (fun j3=>x1=Fl.go j3) (fun (j3:Unit)=>([]:Fr)) (fun (j3:Unit)=>([[.c (.bool gJ)]]:St)) ?_ ?_
   ·
    refine bJ<|dV _ (fun (s4:Int)=>([(0,.c (PV.ls 5 bF p0s)),(1,.fn 177 [.box 0 0]),(7,ci ((p0s).length:Int)),(8,ci s4)]:Fr)) (fun (s4:Int)=>([[.c (.bool gJ)]]:St)) hx1 (aU [] 1 r r r r ⟨lr,lr,lr,lr,trivial⟩ (bW r aA)) ?_
    intro s4 st4 hs4 ho4
    unfold dS at hs4
    refine aH<|aM r (dJ r r)<|aF (fr':=[(0,aL),(1,.fn _ [.box 0 0]),(7,aI),(8,aI),(9,aB)]) r r<|aP<|bP hs4 r (fun hb5 h5=>?_) (fun hb5 h5=>?_)
    ·
     refine aW<|bV<|aP<|bJ<|aH<|mI r<|sI r<|aF (fr':=[(0,aL),(1,.fn _ [.box 0 0]),(5,aI),(7,aI),(8,aI)]) r r<|aH<|mV (v:=.fn _ [.box 0 0]) r<|mL r ?_
     refine mI r ?_
     obtain ⟨x6,hx6,h7⟩:=aE h5
     refine aM r (gR (cs:=[PV.int _ _,PV.int _ _,PV.str _,PV.ls _ _ _,PV.ls _ _ _]) mP (cC r) r hx6 (cE _))<|aM r (gM (us:=[PV.int _ _,PV.int _ _,PV.str _,PV.ls _ _ _,PV.ls _ _ _]) fM r r r) ?_
     obtain ⟨x8,hx8,h9⟩:=aE h7
     refine eD (v:=aB) (σ':=[[aB]]) [0] r (ih_value_formed_1 hx8) r r ⟨(bK r ⟨r,r,r,r,r,trivial⟩),lr,trivial⟩ (wG ⟨lr,trivial⟩ aA) r r r<|aF (fr':=[(0,aL),(1,.fn _ [.box 0 0]),(5,aI),(7,aI),(8,aI),(16,aB)]) r r<|bP h9 r (fun hb10 h10=>?_) (fun hb10 h10=>?_)
     ·
      refine aH<|mI r<|sI r<|aF (fr':=[(4,aI)]) r r<|bC<|bA<|aJ<|aJ<|bA<|aJ<|aJ ?_
      have h11:=cS h10 ho4
      have h12:=dQ h11 h2
      obtain rfl:=sy h12
      exact bB (rs':=[.tmp 4]) r<|bH (v:=aI) r<|aZ<|aN [] r r r lr (bW r aA)
     ·
      exact aW<|bX<|bV<|aQ<|aM r (dB r r)<|mI r<|cB (fr':=[(0,aL),(1,.fn _ [.box 0 0]),(5,aI),(7,aI),(8,aI),(16,aB)]) r<|rX _ (sy h10) (aU [] 1 r r r r ⟨lr,lr,lr,lr,trivial⟩ (bW r aA))
    ·
     refine eK<|bR<|bR<|dC ?_
     have h14:=cS h5 ho4
     exact gD _ (sy h14) (aU [] 1 r r r r trivial (bW r aA))
   ·
    intro j3 hj15
    have h15:=iC hj15 h2
    refine bV<|aH<|sI r<|aF (fr':=[(4,aI)]) r r<|bC ?_
    obtain rfl:=sy h15
    exact bB (rs':=[.tmp 4]) r<|bH (v:=aI) r<|aZ<|aN [] r r r lr (bW r aA)
  ·
   intro p0C p1o res h
   rw [mN] at h
   refine cJ (fn:=Tryz.f128) [0,1,2,3,4,5,6,7,8,24,25,41,63,75,95,107,115,116,136] (by kernel_rfl) Tryz.func128 r (by kernel_rfl) (by kernel_rfl)<|aH<|fS (v:=.agg bL) (n:=0) (cs:=bL) (σ':=[bL]) r r r r r<|fS (v:=aB) (n:=1) (cs:=[aB]) (σ':=[bL,[aB]]) r r r r r<|sB r<|aF (fr':=[(2,.box 0 0),(3,.box 1 0)]) r r<|aH<|aM r (bD mM r)<|aM r (aK (v:=aI) eP r r r)<|aM r (fI r r)<|sB r ?_
   refine aF (fr':=[(2,.box 0 0),(3,.box 1 0),(5,aB)]) r r<|aH<|aM r (bD lT r)<|aM r (aK (v:=aS) kD r r r)<|aM r (yC r r)<|sB r<|aF (fr':=[(2,.box 0 0),(3,.box 1 0),(5,aB),(6,aB)]) r r<|aH<|aM r (bD eJ r)<|aM r (aK (v:=aL) iF r r r)<|aM r (dI nH (cC r)) ?_
   refine aM r (kA r r)<|sB r<|aF (fr':=[(2,.box 0 0),(3,.box 1 0),(5,aB),(6,aB),(7,aB)]) r r<|aH<|aM r (bD jA r)<|aM r (aK (v:=aL) kM r r r)<|aM r (dI pI (cC r))<|aM r (kA r r)<|sB r<|aF (fr':=[(2,.box 0 0),(3,.box 1 0),(5,aB),(6,aB),(7,aB),(8,aB)]) r r ?_
   obtain ⟨x1,hx1,h2⟩:=aE h
   refine fY (fun j3=>x1=Fl.go j3) (fun (j3:Unit)=>([(2,.box 0 0),(3,.box 1 0)]:Fr)) (fun (j3:Unit)=>([[ci p0C.Kind,ci p0C.Int,.c (.str p0C.Text),.c (PV.ls 5 bF p0C.Items),.c (PV.ls 1 eA p0C.Keys)],[.c (.bool p1o)]]:St)) ?_ ?_
   ·
    refine aH<|aM r (bD gW r)<|aM r (aK (v:=aI) eP r r r)<|aF (fr':=[(2,.box 0 0),(3,.box 1 0),(5,aB),(6,aB),(7,aB),(8,aB),(24,aI)]) r r<|bJ<|aH<|aM r (bM r r)<|sB r<|aF (fr':=[(2,.box 0 0),(3,.box 1 0),(5,aB),(6,aB),(7,aB),(8,aB),(24,aI),(25,aB)]) r r<|bP hx1 r (fun hb4 h4=>?_) (fun hb4 h4=>?_)
    ·
     refine aH<|mB r<|aM r (eI r)<|mB r<|og r r r (fun hc=>(bE (v:=aB) r))<|og r r r (fun hc=>(eI (gx r hc)))<|aM r (bO r r r (fun e=>eO e))<|mB r<|og r r r (fun hc=>(bE (v:=aB) r))<|og r r r (fun hc=>(eI (gx r hc)))<|aM r (bO r r r (fun e=>eO e))<|mB r ?_
     refine og r r r (fun hc=>(bE (v:=aB) r))<|og r r r (fun hc=>(eI (gx r hc)))<|aM r (bO r r r (fun e=>eO e))<|sB r<|aF (fr':=[(4,aB)]) r r<|bC<|bA<|aJ ?_
     have h5:=dQ h4 h2
     obtain rfl:=sy h5
     exact bB (rs':=[.tmp 4]) r<|bH (v:=aB) r<|aZ<|aN [] r r r lr aA
    ·
     refine aH<|aM r (bM r r)<|sB r<|aF (fr':=[(2,.box 0 0),(3,.box 1 0),(5,aB),(6,aB),(7,aB),(8,aB),(24,aI),(41,aB)]) r r<|bP h4 r (fun hb7 h7=>?_) (fun hb7 h7=>?_)
     ·
      refine aH<|aM r (bD mM r)<|aM r (aK (v:=aI) eP r r r)<|aM r (bM r r)<|mB r<|og r r r (fun hc=>(bD mM r))<|og r r r (fun hc=>(aK (v:=aI) eP (gx r hc) r r))<|og r r r (fun hc=>(bM (gx r hc) r))<|aM r (bY r r r (fun e=>eO e))<|mB r<|og r r r (fun hc=>(bE (v:=aB) r))<|og r r r (fun hc=>(eI (gx r hc))) ?_
      refine aM r (bO r r r (fun e=>eO e))<|mB r<|og r r r (fun hc=>(bE (v:=aB) r))<|og r r r (fun hc=>(eI (gx r hc)))<|aM r (bO r r r (fun e=>eO e))<|mB r<|og r r r (fun hc=>(bE (v:=aB) r))<|og r r r (fun hc=>(eI (gx r hc)))<|aM r (bO r r r (fun e=>eO e))<|sB r<|aF (fr':=[(4,aB)]) r r<|bC<|bA ?_
      refine aJ ?_
      have h8:=dQ h7 h2
      obtain rfl:=sy h8
      exact bB (rs':=[.tmp 4]) r<|bH (v:=aB) r<|aZ<|aN [] r r r lr aA
     ·
      refine aH<|aM r (bM r r)<|sB r<|aF (fr':=[(2,.box 0 0),(3,.box 1 0),(5,aB),(6,aB),(7,aB),(8,aB),(24,aI),(63,aB)]) r r<|bP h7 r (fun hb10 h10=>?_) (fun hb10 h10=>?_)
      ·
       refine aH<|mB r<|aM r (eI r)<|mB r<|og r r r (fun hc=>(bE (v:=aB) r))<|og r r r (fun hc=>(eI (gx r hc)))<|aM r (bO r r r (fun e=>eO e))<|mB r<|og r r r (fun hc=>(bE (v:=aB) r))<|og r r r (fun hc=>(eI (gx r hc)))<|aM r (bO r r r (fun e=>eO e))<|sB r ?_
       refine aF (fr':=[(4,aB)]) r r<|bC<|bA<|aJ ?_
       have h11:=dQ h10 h2
       obtain rfl:=sy h11
       exact bB (rs':=[.tmp 4]) r<|bH (v:=aB) r<|aZ<|aN [] r r r lr aA
      ·
       refine aH<|aM r (bM r r)<|sB r<|aF (fr':=[(2,.box 0 0),(3,.box 1 0),(5,aB),(6,aB),(7,aB),(8,aB),(24,aI),(75,aB)]) r r<|bP h10 r (fun hb13 h13=>?_) (fun hb13 h13=>?_)
       ·
        refine aH<|aM r (aK (v:=aB) tv4 r r r)<|mB r<|og r r r (fun hc=>(bD mM r))<|og r r r (fun hc=>(aK (v:=aI) eP (gx r hc) r r))<|og r r r (fun hc=>(nM (gx r hc) r))<|aM r (bO r r r (fun e=>eO e))<|mB r<|og r r r (fun hc=>(bE (v:=aB) r))<|og r r r (fun hc=>(eI (gx r hc)))<|aM r (bO r r r (fun e=>eO e))<|mB r ?_
        refine og r r r (fun hc=>(bE (v:=aB) r))<|og r r r (fun hc=>(eI (gx r hc)))<|aM r (bO r r r (fun e=>eO e))<|mB r<|og r r r (fun hc=>(bE (v:=aB) r))<|og r r r (fun hc=>(eI (gx r hc)))<|aM r (bO r r r (fun e=>eO e))<|sB r<|aF (fr':=[(4,aB)]) r r<|bC<|bA<|aJ ?_
        have h14:=dQ h13 h2
        obtain rfl:=sy h14
        exact bB (rs':=[.tmp 4]) r<|bH (v:=aB) r<|aZ<|aN [] r r r lr aA
       ·
        refine aH<|aM r (bM r r)<|sB r<|aF (fr':=[(2,.box 0 0),(3,.box 1 0),(5,aB),(6,aB),(7,aB),(8,aB),(24,aI),(95,aB)]) r r<|bP h13 r (fun hb16 h16=>?_) (fun hb16 h16=>?_)
        ·
         refine aH<|mB r<|aM r (eI r)<|mB r<|og r r r (fun hc=>(bE (v:=aB) r))<|og r r r (fun hc=>(eI (gx r hc)))<|aM r (bO r r r (fun e=>eO e))<|mB r<|og r r r (fun hc=>(bE (v:=aB) r))<|og r r r (fun hc=>(eI (gx r hc)))<|aM r (bO r r r (fun e=>eO e))<|sB r ?_
         refine aF (fr':=[(4,aB)]) r r<|bC<|bA<|aJ ?_
         have h17:=dQ h16 h2
         obtain rfl:=sy h17
         exact bB (rs':=[.tmp 4]) r<|bH (v:=aB) r<|aZ<|aN [] r r r lr aA
        ·
         refine aH<|aM r (bM r r)<|sB r<|aF (fr':=[(2,.box 0 0),(3,.box 1 0),(5,aB),(6,aB),(8,aB),(24,aI),(107,aB)]) r r<|bP h16 r (fun hb19 h19=>?_) (fun hb19 h19=>?_)
         ·
          refine aH<|mB r<|mB r<|og r r r (fun hc=>(bE (v:=aB) r))<|aM r (bY r r r (fun e=>eO e))<|mB r<|og r r r (fun hc=>(bE (v:=aB) r))<|aM r (bY r r r (fun e=>eO e))<|aF (fr':=[(2,.box 0 0),(3,.box 1 0),(115,aB)]) r r<|bP h19 r (fun hb20 h20=>?_) (fun hb20 h20=>?_)
          ·
           refine aH<|sB r<|aF (fr':=[(4,aB)]) r r<|bC<|bA<|aJ ?_
           have h21:=dQ h20 h2
           obtain rfl:=sy h21
           exact bB (rs':=[.tmp 4]) r<|bH (v:=aB) r<|aZ<|aN [] r r r lr aA
          ·
           exact aW<|bX<|gD _ (sy h20) (aU [] 2 r r r r ⟨lr,lr,trivial⟩ (bW r (bW r aA)))
         ·
          refine aH<|aM r (bM r r)<|sB r<|aF (fr':=[(2,.box 0 0),(3,.box 1 0),(5,aB),(6,aB),(116,aB)]) r r<|bP h19 r (fun hb23 h23=>?_) (fun hb23 h23=>?_)
          ·
           refine aH<|mB r<|mB r<|og r r r (fun hc=>(bE (v:=aB) r))<|aM r (bY r r r (fun e=>eO e))<|mB r<|og r r r (fun hc=>(bD jA r))<|og r r r (fun hc=>(aK (v:=aL) kM (gx r hc) r r))<|og r r r (fun hc=>(dI pI (cC (gx r hc))))<|og r r r (fun hc=>(bD eJ r))<|og r r r (fun hc=>(aK (v:=aL) iF (gx r hc) r r))<|og r r r (fun hc=>(dI nH (cC (gx r hc)))) ?_
           refine og r r r (fun hc=>(fI (gx r hc) (gx r hc)))<|aM r (bY r r r (fun e=>eO e))<|mB r<|og r r r (fun hc=>(bD jA r))<|og r r r (fun hc=>(aK (v:=aL) kM (gx r hc) r r)) ?_
           obtain ⟨x24,hx24,h25⟩:=aE h23
           refine sM r r (fun hc=>aX (v:=aB) r (aC5 (cA hx24 hc)) ⟨(eH (gx r hc) lr),trivial⟩ (fA (by repeat (first | exact dX | refine aY r ?_ | refine aY (oS r) ?_ | refine aY oR ?_))) r r) ?_
           refine og r r r (fun hc=>(eI (gx r hc)))<|aM r (bY r r r (fun e=>eO e))<|aF (fr':=[(2,.box 0 0),(3,.box 1 0),(136,aB)]) r r<|bP h25 r (fun hb26 h26=>?_) (fun hb26 h26=>?_)
           ·
            refine aH<|sB r<|aF (fr':=[(4,aB)]) r r<|bC<|bA<|aJ ?_
            have h27:=dQ h26 h2
            obtain rfl:=sy h27
            exact bB (rs':=[.tmp 4]) r<|bH (v:=aB) r<|aZ<|aN [] r r r lr aA
           ·
            exact aW<|bX<|gD _ (sy h26) (aU [] 2 r r r r ⟨lr,lr,trivial⟩ (bW r (bW r aA)))
          ·
           refine aH<|sB r<|aF (fr':=[(4,aB)]) r r<|bC<|bA<|aJ ?_
           have h29:=dQ h23 h2
           obtain rfl:=sy h29
           exact bB (rs':=[.tmp 4]) r<|bH (v:=aB) r<|aZ<|aN [] r r r lr aA
   ·
    intro j3 hj31
    have h31:=iC hj31 h2
    refine aH<|aM r (bD eJ r)<|aM r (aK (v:=aL) iF r r r)<|aM r (aQf (cs:=[.box 1 0]) r r) ?_
    obtain ⟨x32,hx32,h33⟩:=aE h31
    refine eD (v:=aB) (σ':=[bL,[aB]]) [1] r (ih_slices_ContainsFunc_api_Value_api_Value_value_formed_1 hx32) r r ⟨lr,(aM9 r ⟨lr,trivial⟩),trivial⟩ (wG ⟨lr,trivial⟩ aA) r r r<|aM r (eI r)<|sB r<|aF (fr':=[(4,aB)]) r r<|bC ?_
    obtain rfl:=sy h33
    exact bB (rs':=[.tmp 4]) r<|bH (v:=aB) r<|aZ<|aN [] r r r lr aA
  ·
   intro p0x gJ res h
   rw [lU] at h
   refine cJ (fn:=Tryz.f177) [0,1,2,3] (by kernel_rfl) Tryz.func177 r (by kernel_rfl) (by kernel_rfl)<|aH<|fS (v:=.agg bL) (n:=1) (cs:=bL) (σ':=[[aB],bL]) r r r r r<|sB r<|aF (fr':=[(1,.box 0 0),(2,.box 1 0)]) r r<|aH<|aM r (cN (us:=bL) fM r r r r)<|aM r (aK (v:=aB) tv4 r r r) ?_
   obtain ⟨x1,hx1,h2⟩:=aE h
   refine gV (aX (v:=aB) r (ih_value_formed hx1) ⟨(bK r ⟨r,r,r,r,r,trivial⟩),lr,trivial⟩ r r r)<|aM r (eI r)<|sB r<|aF (fr':=[(3,aB)]) r r<|bC ?_
   obtain rfl:=sy h2
   exact bB (rs':=[.tmp 3]) r<|bH (v:=aB) r<|aZ<|aN [] r r r lr (bW r aA)
noncomputable def wI (p0C:aC) (p1o:Bool):Option Bool:=lim fun n=>mN n p0C p1o
theorem aA9 {p0C:aC}{p1o:Bool}{res:Bool} (h:wI p0C p1o=some res):bS Tryz.prog 128 [.agg (AV.cs (cQ p0C)),.c (.bool p1o)] [] (.c (.bool res)) []:=by
 obtain ⟨n,hn⟩:=jZ h
 exact (jP n).2.2.1 hn
noncomputable def iZ (yP:(List UInt8)→aC→Option (List UInt8)) (p1v:aC) (s34:((List UInt8) × Int)):Option (cI ((List UInt8) × Int) (List UInt8)) :=
 cond (decide (s34.2<((p1v.Items).length:Int))) ((hG p1v.Items s34.2).bind fun x36=>cond (decide (p1v.Kind=(5:Int))) ((hG p1v.Keys s34.2).bind fun x39=>(iU s34.1 x39).bind fun x41=>(yP x41 x36).bind fun x43=>some (cI.next (x43,(IntKind.wrap .i64 (s34.2+(1:Int)))))) ((yP s34.1 x36).bind fun x45=>some (cI.next (x45,(IntKind.wrap .i64 (s34.2+(1:Int))))))) (some (cI.out s34.1))
noncomputable def kY:Nat→(List UInt8)→aC→Option (List UInt8)
 | 0,_,_=>none
 | n+1,p0b,p1v =>
  (fW p0b p1v.Kind).bind fun x1=>((((cond (decide (p1v.Kind=(1:Int))) (some (decide (p1v.Kind=(1:Int)))) (cond (decide (p1v.Kind=(2:Int))) (some (decide (p1v.Kind=(2:Int)))) (some (decide (p1v.Kind=(6:Int)))))):Option Bool).bind fun x6=>(cond x6 ((fW x1 p1v.Int).bind fun x13=>some (Fl.done x13)) (cond (decide (p1v.Kind=(3:Int))) ((iU x1 p1v.Text).bind fun x18=>some (Fl.done x18)) (((cond (decide (p1v.Kind=(4:Int))) (some (decide (p1v.Kind=(4:Int)))) (some (decide (p1v.Kind=(5:Int))))):Option Bool).bind fun x22=>(cond x22 ((fW x1 ((p1v.Items).length:Int)).bind fun x28=>some (Fl.go x28)) (some (Fl.go x1))))))):Option (Fl (List UInt8) (List UInt8))).bind fun x3=>Fl.next x3 (fun j5=>(((dR (iZ (kY n) p1v) ((j5,(0:Int)))):Option (List UInt8)).bind fun x31=>(some x31)))
theorem aEk:∀ n:Nat,(∀ {p0b:(List UInt8)}{p1v:aC}{res:(List UInt8)},kY n p0b p1v=some res→bS Tryz.prog 129 [.c (PV.ls 1 dF p0b),.agg (AV.cs (cQ p1v))] [] (AV.os 0 1 dF res) []):=by
 intro n
 induction n with
 | zero=>exact fun {p0b p1v res} h=>absurd h (by simp [kY])
 | succ n ih =>
  have ih_value_encode:=@ih
  intro p0b p1v res h
  rw [kY] at h
  refine cJ (fn:=Tryz.f129) [0,1,3,4,5,6,12,13,21,27,36,37,38,39,45] (by kernel_rfl) Tryz.func129 r (by kernel_rfl) (by kernel_rfl)<|aH<|fS (v:=.agg bL) (n:=0) (cs:=bL) (σ':=[bL]) r r r r r<|sV (v:=AV.nil) r<|aF (fr':=[(0,aL),(3,.box 0 0)]) r r<|aH<|mL r<|aM r (bD gW r)<|aM r (aK (v:=aI) eP r r r) ?_
  obtain ⟨x1,hx1,h2⟩:=aE h
  refine gV (aX (v:=aO) r (gB hx1) ⟨lr,lr,trivial⟩ r r r)<|sV (v:=aO) r<|aF (fr':=[(0,aO),(3,.box 0 0)]) r r ?_
  obtain ⟨x3,hx3,h4⟩:=aE h2
  refine fY (fun j5=>x3=Fl.go j5) (fun (j5:(List UInt8))=>([(0,AV.os 0 1 dF j5),(3,.box 0 0)]:Fr)) (fun (j5:(List UInt8))=>([[ci p1v.Kind,ci p1v.Int,.c (.str p1v.Text),.c (PV.ls 5 bF p1v.Items),.c (PV.ls 1 eA p1v.Keys)]]:St)) ?_ ?_
  ·
   refine aH<|aM r (bD gW r)<|aM r (aK (v:=aI) eP r r r)<|aF (fr':=[(0,aO),(3,.box 0 0),(12,aI)]) r r<|bJ ?_
   obtain ⟨x6,hx6,h7⟩:=aE hx3
   refine fY (fun j8=>x6=j8) (fun (j8:Bool)=>([(0,AV.os 0 1 dF x1),(3,.box 0 0),(12,ci p1v.Kind),(13,.c (.bool j8))]:Fr)) (fun (j8:Bool)=>([[ci p1v.Kind,ci p1v.Int,.c (.str p1v.Text),.c (PV.ls 5 bF p1v.Items),.c (PV.ls 1 eA p1v.Keys)]]:St)) ?_ ?_
   ·
    refine aH<|aM r (bM r r)<|sB r<|aF (fr':=[(0,aO),(3,.box 0 0),(12,aI),(13,aB)]) r r<|bP hx6 r (fun hb9 h9=>?_) (fun hb9 h9=>?_)
    ·
     exact aW<|gD _ (sy h9) (aU [160] 1 r r r r ⟨lr,lr,lr,lr,trivial⟩ (bW r aA))
    ·
     refine aH<|aM r (bM r r)<|sB r<|aF (fr':=[(0,aO),(3,.box 0 0),(12,aI),(13,aB)]) r r<|bP h9 r (fun hb10 h10=>?_) (fun hb10 h10=>?_)
     ·
      exact aW<|gD _ (sy h10) (aU [160] 1 r r r r ⟨lr,lr,lr,lr,trivial⟩ (bW r aA))
     ·
      exact aQ<|aM r (bM r r)<|sB r<|cB (fr':=[(0,aO),(3,.box 0 0),(12,aI),(13,aB)]) r<|gD _ (sy h10) (aU [160] 1 r r r r ⟨lr,lr,lr,lr,trivial⟩ (bW r aA))
   ·
    intro j8 hj11
    subst hj11
    refine bP h7 r (fun hb12 h12=>?_) (fun hb12 h12=>?_)
    ·
     refine aH<|mV (v:=aO) r<|aM r (bD mM r)<|aM r (aK (v:=aI) eP r r r) ?_
     obtain ⟨x13,hx13,h14⟩:=aE h12
     refine gV (aX (v:=aO) r (gB hx13) ⟨lr,lr,trivial⟩ r r r)<|sV (v:=aO) r<|aF (fr':=[(4,aO)]) r r<|bC<|bA<|aJ ?_
     have h15:=dQ h14 h4
     obtain rfl:=sy h15
     exact bB (rs':=[.tmp 4]) r<|bH (v:=aO) r<|aZ<|aN [320] r r r lr aA
    ·
     refine aH<|aM r (bM r r)<|sB r<|aF (fr':=[(0,aO),(3,.box 0 0),(12,aI),(21,aB)]) r r<|bP h12 r (fun hb17 h17=>?_) (fun hb17 h17=>?_)
     ·
      refine aH<|mV (v:=aO) r<|aM r (bD lT r)<|aM r (aK (v:=aS) kD r r r) ?_
      obtain ⟨x18,hx18,h19⟩:=aE h17
      refine gV (aX (v:=aO) r (nJ hx18) ⟨lr,lr,trivial⟩ r r r)<|sV (v:=aO) r<|aF (fr':=[(4,aO)]) r r<|bC<|bA<|aJ ?_
      have h20:=dQ h19 h4
      obtain rfl:=sy h20
      exact bB (rs':=[.tmp 4]) r<|bH (v:=aO) r<|aZ<|aN [416] r r r lr aA
     ·
      obtain ⟨x22,hx22,h23⟩:=aE h17
      refine fY (fun j24=>x22=j24) (fun (j24:Bool)=>([(0,AV.os 0 1 dF x1),(3,.box 0 0),(27,.c (.bool j24))]:Fr)) (fun (j24:Bool)=>([[ci p1v.Kind,ci p1v.Int,.c (.str p1v.Text),.c (PV.ls 5 bF p1v.Items),.c (PV.ls 1 eA p1v.Keys)]]:St)) ?_ ?_
      ·
       refine aH<|aM r (bM r r)<|sB r<|aF (fr':=[(0,aO),(3,.box 0 0),(12,aI),(27,aB)]) r r<|bP hx22 r (fun hb25 h25=>?_) (fun hb25 h25=>?_)
       ·
        exact aW<|gD _ (sy h25) (aU [0] 1 r r r r ⟨lr,lr,lr,trivial⟩ (bW r aA))
       ·
        exact aQ<|aM r (bM r r)<|sB r<|cB (fr':=[(0,aO),(3,.box 0 0),(12,aI),(27,aB)]) r<|gD _ (sy h25) (aU [0] 1 r r r r ⟨lr,lr,lr,trivial⟩ (bW r aA))
      ·
       intro j24 hj26
       subst hj26
       refine bP h23 r (fun hb27 h27=>?_) (fun hb27 h27=>?_)
       ·
        refine aQ<|mV (v:=aO) r<|aM r (bD eJ r)<|aM r (aK (v:=aL) iF r r r)<|aM r (dI nH (cC r)) ?_
        obtain ⟨x28,hx28,h29⟩:=aE h27
        exact gV (aX (v:=aO) r (gB hx28) ⟨lr,lr,trivial⟩ r r r)<|sV (v:=aO) r<|cB (fr':=[(0,aO),(3,.box 0 0),(27,aB)]) r<|bX<|gD _ (sy h29) (aU [544] 1 r r r r ⟨lr,lr,trivial⟩ (bW r aA))
       ·
        exact aW<|bX<|gD _ (sy h27) (aU [0] 1 r r r r ⟨lr,lr,trivial⟩ (bW r aA))
  ·
   intro j5 hj30
   have h30:=iC hj30 h4
   refine aP<|aH<|aM r (bD eJ r)<|aM r (aK (v:=aL) iF r r r)<|aM r (dI nH (cC r))<|mI r<|aF (fr':=[(0,aO),(3,.box 0 0),(36,aL),(37,aI),(38,aI)]) r r ?_
   obtain ⟨x31,hx31,h32⟩:=aE h30
   refine eB gF (fun j33=>x31=j33) (fun (j33:(List UInt8))=>([(0,AV.os 0 1 dF j33)]:Fr)) (fun (j33:(List UInt8))=>([[ci p1v.Kind,ci p1v.Int,.c (.str p1v.Text),.c (PV.ls 5 bF p1v.Items),.c (PV.ls 1 eA p1v.Keys)]]:St)) ?_ ?_
   ·
    refine bJ<|dV _ (fun (s34:((List UInt8) × Int))=>([(0,AV.os 0 1 dF s34.1),(3,.box 0 0),(36,.c (PV.ls 5 bF p1v.Items)),(37,ci ((p1v.Items).length:Int)),(38,ci s34.2)]:Fr)) (fun (s34:((List UInt8) × Int))=>([[ci p1v.Kind,ci p1v.Int,.c (.str p1v.Text),.c (PV.ls 5 bF p1v.Items),.c (PV.ls 1 eA p1v.Keys)]]:St)) hx31 (aU [0] 1 r r r r ⟨lr,lr,lr,lr,lr,trivial⟩ (bW r aA)) ?_
    intro s34 st34 hs34 ho34
    unfold iZ at hs34
    refine aH<|aM r (dJ r r)<|aF (fr':=[(0,aO),(3,.box 0 0),(36,aL),(37,aI),(38,aI),(39,aB)]) r r<|aP<|bP hs34 r (fun hb35 h35=>?_) (fun hb35 h35=>?_)
    ·
     refine aW<|bV<|aP<|bJ<|aH<|mI r ?_
     obtain ⟨x36,hx36,h37⟩:=aE h35
     refine aM r (gR (cs:=[PV.int _ _,PV.int _ _,PV.str _,PV.ls _ _ _,PV.ls _ _ _]) mP (cC r) r hx36 (cE _))<|aM r (gM (us:=[PV.int _ _,PV.int _ _,PV.str _,PV.ls _ _ _,PV.ls _ _ _]) fM r r r)<|gC (n:=1) (cs:=bT) (σ':=[bL,bT]) aCi r r r<|sI r<|bU (v:=.agg bL) (us:=bL) (cs:=bT) (σ':=[bL,bL]) r fM r r r r r r r r<|aF (fr':=[(0,aO),(3,.box 0 0),(5,aI),(6,.box 1 0),(36,aL),(37,aI),(38,aI)]) r r<|aP<|aH<|aM r (bD gW r)<|aM r (aK (v:=aI) eP r r r)<|aM r (bM r r)<|aF (fr':=[(0,aO),(3,.box 0 0),(5,aI),(6,.box 1 0),(36,aL),(37,aI),(38,aI),(45,aB)]) r r ?_
     refine bP h37 r (fun hb38 h38=>?_) (fun hb38 h38=>?_)
     ·
      refine aQ<|mV (v:=aO) r<|aM r (bD jA r)<|aM r (aK (v:=aL) kM r r r)<|mI r ?_
      obtain ⟨x39,hx39,h40⟩:=aE h38
      refine aM r (gR (cs:=[PV.str _]) vV (cC r) r hx39 r)<|aM r (eG (p:=PV.str _) kD r r) ?_
      obtain ⟨x41,hx41,h42⟩:=aE h40
      refine gV (aX (v:=aO) r (nJ hx41) ⟨lr,lr,trivial⟩ r r r)<|sV (v:=aO) r<|aF (fr':=[(0,aO),(3,.box 0 0),(6,.box 1 0),(36,aL),(37,aI),(38,aI)]) r r<|aQ<|mV (v:=aO) r<|aM r (cN (us:=bL) fM r r r r) ?_
      obtain ⟨x43,hx43,h44⟩:=aE h42
      exact gV (aX (v:=aO) r (ih_value_encode hx43) ⟨lr,(bK r ⟨r,r,r,r,r,trivial⟩),trivial⟩ r r r)<|sV (v:=aO) r<|cB (fr':=[(0,aO),(3,.box 0 0),(6,.box 1 0),(36,aL),(37,aI),(38,aI)]) r<|bX<|bV<|aQ<|aM r (dB r r)<|mI r<|cB (fr':=[(0,aO),(3,.box 0 0),(6,.box 1 0),(36,aL),(37,aI),(38,aI)]) r<|rX _ (sy h44) (aU [880] 1 r r r r ⟨lr,lr,lr,lr,lr,trivial⟩ (bW r aA))
     ·
      refine aW<|bV<|aQ<|mV (v:=aO) r<|aM r (cN (us:=bL) fM r r r r) ?_
      obtain ⟨x45,hx45,h46⟩:=aE h38
      exact gV (aX (v:=aO) r (ih_value_encode hx45) ⟨lr,(bK r ⟨r,r,r,r,r,trivial⟩),trivial⟩ r r r)<|sV (v:=aO) r<|cB (fr':=[(0,aO),(3,.box 0 0),(5,aI),(6,.box 1 0),(36,aL),(37,aI),(38,aI),(45,aB)]) r<|bX<|bV<|aQ<|aM r (dB r r)<|mI r<|cB (fr':=[(0,aO),(3,.box 0 0),(5,aI),(6,.box 1 0),(36,aL),(37,aI),(38,aI),(45,aB)]) r<|rX _ (sy h46) (aU [880] 1 r r r r ⟨lr,lr,lr,lr,lr,trivial⟩ (bW r aA))
    ·
     refine eK<|bR<|bR<|dC ?_
     have h47:=cS h35 ho34
     exact gD _ (sy h47) (aU [0] 1 r r r r ⟨lr,trivial⟩ (bW r aA))
   ·
    intro j33 hj48
    subst hj48
    refine bV<|aH<|mV (v:=aO) r<|sV (v:=aO) r<|aF (fr':=[(4,aO)]) r r<|bC ?_
    obtain rfl:=sy h32
    exact bB (rs':=[.tmp 4]) r<|bH (v:=aO) r<|aZ<|aN [0] r r r lr aA
noncomputable def zZ (p0b:(List UInt8)) (p1v:aC):Option (List UInt8):=lim fun n=>kY n p0b p1v
theorem aGa {p0b:(List UInt8)}{p1v:aC}{res:(List UInt8)} (h:zZ p0b p1v=some res):bS Tryz.prog 129 [.c (PV.ls 1 dF p0b),.agg (AV.cs (cQ p1v))] [] (AV.os 0 1 dF res) []:=by
 obtain ⟨n,hn⟩:=jZ h
 exact (aEk n) hn
noncomputable def tY (p0b:(List UInt8)) (p1v:aC):Option (List UInt8) :=
 (gA p0b).bind fun x1=>(wI p1v true).bind fun x3=>cond (!x3) (some x1) ((zZ x1 p1v).bind fun x7=>some x7)
theorem aF9 {p0b:(List UInt8)}{p1v:aC}{res:(List UInt8)} (h:tY p0b p1v=some res):bS Tryz.prog 55 [.c (PV.ls 1 dF p0b),.agg (AV.cs (cQ p1v))] [] (AV.os 0 1 dF res) []:=by
 unfold tY at h
 refine cJ (fn:=Tryz.f55) [0,1,3,4,5,10] (by kernel_rfl) Tryz.func55 r (by kernel_rfl) (by kernel_rfl)<|aH<|fS (v:=.agg bL) (n:=0) (cs:=bL) (σ':=[bL]) r r r r r<|sV (v:=AV.nil) r<|aF (fr':=[(0,aL),(3,.box 0 0)]) r r<|aH<|mL r ?_
 obtain ⟨x1,hx1,h2⟩:=aE h
 refine gV (aX (v:=aO) r (jQ hx1) ⟨lr,trivial⟩ r r r)<|sV (v:=aO) r<|aF (fr':=[(3,.box 0 0),(5,aO)]) r r<|aP<|aH<|aM r (cN (us:=bL) fM r r r r) ?_
 obtain ⟨x3,hx3,h4⟩:=aE h2
 refine gV (aX (v:=aB) r (aA9 hx3) ⟨(bK r ⟨r,r,r,r,r,trivial⟩),lr,trivial⟩ r r r)<|aM r (eI r)<|aF (fr':=[(3,.box 0 0),(5,aO),(10,aB)]) r r<|bP h4 r (fun hb5 h5=>?_) (fun hb5 h5=>?_)
 ·
  refine aH<|mV (v:=aO) r<|sV (v:=aO) r<|aF (fr':=[(4,aO)]) r r<|bC<|aJ ?_
  obtain rfl:=sy h5
  exact bB (rs':=[.tmp 4]) r<|bH (v:=aO) r<|aZ<|aN [112] r r r lr aA
 ·
  refine aW<|bV<|aH<|mV (v:=aO) r<|aM r (cN (us:=bL) fM r r r r) ?_
  obtain ⟨x7,hx7,h8⟩:=aE h5
  refine gV (aX (v:=aO) r (aGa hx7) ⟨lr,(bK r ⟨r,r,r,r,r,trivial⟩),trivial⟩ r r r)<|sV (v:=aO) r<|aF (fr':=[(4,aO)]) r r<|bC ?_
  obtain rfl:=sy h8
  exact bB (rs':=[.tmp 4]) r<|bH (v:=aO) r<|aZ<|aN [224] r r r lr aA
noncomputable def iE (p0n:Int) (nC:Int) (jK:Int):Option Bool :=
 some (cond (decide (nC≤p0n)) (decide (p0n≤jK)) false)
theorem iT {p0n:Int}{nC:Int}{jK:Int}{res:Bool} (h:iE p0n nC jK=some res):bS Tryz.prog 148 [ci p0n,ci nC,ci jK] [] (.c (.bool res)) []:=by
 unfold iE at h
 refine cJ (fn:=Tryz.f148) [0,1,2,6] (by kernel_rfl) Tryz.func148 r (by kernel_rfl) (by kernel_rfl)<|aH<|sB r<|aF (fr':=[(0,aI),(1,aI),(2,aI)]) r r<|aH<|mI r<|mI r<|aM r (nM r r)<|mB r<|og r r r (fun hc=>(bE (v:=aI) r))<|og r r r (fun hc=>(bE (v:=aI) r)) ?_
 refine og r r r (fun hc=>(nD (gx r hc) (gx r hc)))<|aM r (bO r r r (fun e=>eO e))<|sB r<|aF (fr':=[(6,aB)]) r r<|bC ?_
 obtain rfl:=sy h
 exact bB (rs':=[.tmp 6]) r<|bH (v:=aB) r<|aZ<|aN [] r r r lr aA
noncomputable def vE (p0c:Int):Option Bool :=
 some (cond (cond (cond (decide ((97:Int)≤p0c)) (decide (p0c≤(122:Int))) false) true (cond (decide ((65:Int)≤p0c)) (decide (p0c≤(90:Int))) false)) true (decide (p0c=(95:Int))))
theorem aGF {p0c:Int}{res:Bool} (h:vE p0c=some res):bS Tryz.prog 199 [.c (.int .u8 p0c)] [] (.c (.bool res)) []:=by
 unfold vE at h
 refine cJ (fn:=Tryz.f199) [0,2] (by kernel_rfl) Tryz.func199 r (by kernel_rfl) (by kernel_rfl)<|aH<|sB r<|aF (fr':=[(0,aI)]) r r<|aH<|mI r<|aM r (nM r r)<|mB r<|og r r r (fun hc=>(bE (v:=aI) r))<|og r r r (fun hc=>(nD (gx r hc) r))<|aM r (bO r r r (fun e=>eO e)) ?_
 refine mB r<|og r r r (fun hc=>(bE (v:=aI) r))<|og r r r (fun hc=>(nM (gx r hc) r))<|og r r r (fun hc=>(bE (v:=aB) (gx r hc)))<|eL r r (fun hc=>eS r (bE (v:=aI) r))<|eL r r (fun hc=>eS r (nD (gx r hc) r))<|og r r r (fun hc=>(bO (gx r hc) r r (fun e=>oC hc (eO e))))<|aM r (bY r r r (fun e=>eO e))<|mB r<|og r r r (fun hc=>(bE (v:=aI) r))<|og r r r (fun hc=>(bM (gx r hc) r))<|aM r (bY r r r (fun e=>eO e))<|sB r ?_
 refine aF (fr':=[(2,aB)]) r r<|bC ?_
 obtain rfl:=sy h
 exact bB (rs':=[.tmp 2]) r<|bH (v:=aB) r<|aZ<|aN [] r r r lr aA
noncomputable def uR (p0s:(List UInt8)) (s6:Int):Option (cI Int (Fl Bool Unit)) :=
 cond (decide (s6<((p0s).length:Int))) ((hG p0s s6).bind fun x8=>(vE ((x8).toNat:Int)).bind fun x10=>(gd (((!x10)==true)&&((decide (s6=(0:Int)))==false)) (hG p0s s6)).bind fun x12=>(gd (((!x10)==true)&&((cond (decide (s6=(0:Int))) true (decide (((x12).toNat:Int)<(48:Int))))==false)) (hG p0s s6)).bind fun x14=>cond (cond (!x10) (cond (cond (decide (s6=(0:Int))) true (decide (((x12).toNat:Int)<(48:Int)))) true (decide ((57:Int)<((x14).toNat:Int)))) false) (some (cI.out (Fl.done false))) (some (cI.next (IntKind.wrap .i64 (s6+(1:Int)))))) (some (cI.out (Fl.go ())))
noncomputable def mG (p0s:(List UInt8)):Option Bool :=
 cond (cond (decide (p0s=([]:List UInt8))) true (decide ((64:Int)<((p0s).length:Int)))) (some false) (((dR (uR p0s) ((0:Int))):Option (Fl Bool Unit)).bind fun x3=>Fl.next x3 (fun j5=>(some true)))
theorem qT {p0s:(List UInt8)}{res:Bool} (h:mG p0s=some res):bS Tryz.prog 167 [.c (.str p0s)] [] (.c (.bool res)) []:=by
 unfold mG at h
 refine cJ (fn:=Tryz.f167) [0,2,3,10,12,13,14,36] (by kernel_rfl) Tryz.func167 r (by kernel_rfl) (by kernel_rfl)<|aH<|sB r<|aF (fr':=[(0,aS)]) r r<|aP<|aH<|mS r<|aM r (oU r r)<|mB r<|og r r r (fun hc=>(bE (v:=aS) r))<|og r r r (fun hc=>(gL pJ (gx r hc))) ?_
 refine og r r r (fun hc=>(kA (gx r hc) r))<|aM r (bY r r r (fun e=>eO e))<|aF (fr':=[(0,aS),(10,aB)]) r r<|bP h r (fun hb1 h1=>?_) (fun hb1 h1=>?_)
 ·
  refine aH<|sB r<|aF (fr':=[(2,aB)]) r r<|bC<|aJ ?_
  obtain rfl:=sy h1
  exact bB (rs':=[.tmp 2]) r<|bH (v:=aB) r<|aZ<|aN [] r r r lr aA
 ·
  refine aW<|bV<|aP<|aH<|mS r<|aM r (gL pJ r)<|mI r<|aF (fr':=[(0,aS),(12,aI),(13,aI)]) r r ?_
  obtain ⟨x3,hx3,h4⟩:=aE h1
  refine eB gF (fun j5=>x3=Fl.go j5) (fun (j5:Unit)=>([]:Fr)) (fun (j5:Unit)=>([]:St)) ?_ ?_
  ·
   refine bJ<|dV _ (fun (s6:Int)=>([(0,.c (.str p0s)),(12,ci ((p0s).length:Int)),(13,ci s6)]:Fr)) (fun (s6:Int)=>([]:St)) hx3 (aU [] 0 r r r r ⟨lr,lr,lr,trivial⟩ aA) ?_
   intro s6 st6 hs6 ho6
   unfold uR at hs6
   refine aH<|aM r (dJ r r)<|aF (fr':=[(0,aS),(12,aI),(13,aI),(14,aB)]) r r<|aP<|bP hs6 r (fun hb7 h7=>?_) (fun hb7 h7=>?_)
   ·
    refine aW<|bV<|aP<|bJ<|aH<|mI r<|sI r<|aF (fr':=[(0,aS),(3,aI),(12,aI),(13,aI)]) r r<|aH<|mS r<|mI r ?_
    obtain ⟨x8,hx8,h9⟩:=aE h7
    refine aM r (wE pJ r r hx8) ?_
    obtain ⟨x10,hx10,h11⟩:=aE h9
    refine gV (aX (v:=aB) r (aGF hx10) ⟨lr,trivial⟩ r r r)<|aM r (eI r)<|mB r<|og r r r (fun hc=>(bE (v:=aI) r))<|og r r r (fun hc=>(bM (gx r hc) r))<|og r r r (fun hc=>(bE (v:=aB) (gx r hc)))<|eL r r (fun hc=>eS r (bE (v:=aS) r))<|eL r r (fun hc=>eS r (bE (v:=aI) r)) ?_
    obtain ⟨x12,hx12,h13⟩:=aE h11
    refine eL r r (fun hc=>eS r (wE pJ (gx r hc) (gx r hc) (cA hx12 hc)))<|eL r r (fun hc=>eS r (dJ (gx r hc) r))<|og r r r (fun hc=>(bY (gx r hc) r r (fun e=>oC hc (eO e))))<|og r r r (fun hc=>(bE (v:=aB) (gx r hc)))<|eL r r (fun hc=>eS r (bE (v:=aS) r))<|eL r r (fun hc=>eS r (bE (v:=aI) r)) ?_
    obtain ⟨x14,hx14,h15⟩:=aE h13
    refine eL r r (fun hc=>eS r (wE pJ (gx r hc) (gx r hc) (cA hx14 hc)))<|eL r r (fun hc=>eS r (kA (gx r hc) r))<|og r r r (fun hc=>(bY (gx r hc) r r (fun e=>oC hc (eO e))))<|aM r (bO r r r (fun e=>eO e))<|aF (fr':=[(0,aS),(12,aI),(13,aI),(36,aB)]) r r<|bP h15 r (fun hb16 h16=>?_) (fun hb16 h16=>?_)
    ·
     refine aH<|sB r<|aF (fr':=[(2,aB)]) r r<|bC<|bA<|aJ<|aJ<|bA<|aJ<|aJ ?_
     have h17:=cS h16 ho6
     have h18:=dQ h17 h4
     obtain rfl:=sy h18
     exact bB (rs':=[.tmp 2]) r<|bH (v:=aB) r<|aZ<|aN [] r r r lr aA
    ·
     exact aW<|bX<|bV<|aQ<|aM r (dB r r)<|mI r<|cB (fr':=[(0,aS),(12,aI),(13,aI),(36,aB)]) r<|rX _ (sy h16) (aU [] 0 r r r r ⟨lr,lr,lr,trivial⟩ aA)
   ·
    refine eK<|bR<|bR<|dC ?_
    have h20:=cS h7 ho6
    exact gD _ (sy h20) (aU [] 0 r r r r trivial aA)
  ·
   intro j5 hj21
   have h21:=iC hj21 h4
   refine bV<|aH<|sB r<|aF (fr':=[(2,aB)]) r r<|bC ?_
   obtain rfl:=sy h21
   exact bB (rs':=[.tmp 2]) r<|bH (v:=aB) r<|aZ<|aN [] r r r lr aA
noncomputable def lK (p0s:(List UInt8)):Option Bool :=
 some (decide ((4096:Int)<((p0s).length:Int)))
theorem yW {p0s:(List UInt8)}{res:Bool} (h:lK p0s=some res):bS Tryz.prog 179 [.c (.str p0s)] [] (.c (.bool res)) []:=by
 unfold lK at h
 refine cJ (fn:=Tryz.f179) [0,2] (by kernel_rfl) Tryz.func179 r (by kernel_rfl) (by kernel_rfl)<|aH<|sB r<|aF (fr':=[(0,aS)]) r r<|aH<|mS r<|aM r (gL pJ r)<|aM r (kA r r)<|sB r<|aF (fr':=[(2,aB)]) r r<|bC ?_
 obtain rfl:=sy h
 exact bB (rs':=[.tmp 2]) r<|bH (v:=aB) r<|aZ<|aN [] r r r lr aA
end Go.Proofs.YtnigjppddilpcaaGreatDoor

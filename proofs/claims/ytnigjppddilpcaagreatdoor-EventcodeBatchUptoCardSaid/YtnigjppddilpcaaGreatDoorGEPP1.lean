/- Plain laws: what the functions compute, with no program in sight. -/
import Derived.Test.YtnigjppddilpcaaGreatDoorGEPP0
import Derived.Test.YtnigjppddilpcaaGreatDoorGEF2
import Derived.Test.YtnigjppddilpcaaGreatDoorGEF9
import Derived.Test.YtnigjppddilpcaaGreatDoorGEF3
import Derived.Test.YtnigjppddilpcaaGreatDoorGEF6
import Derived.Test.YtnigjppddilpcaaGreatDoorGEF1
import Derived.Test.YtnigjppddilpcaaGreatDoorGEF7
import Derived.Test.YtnigjppddilpcaaGreatDoorGEF14
import Derived.Test.YtnigjppddilpcaaGreatDoorGEF16
import Derived.Test.YtnigjppddilpcaaGreatDoorAbsU
import Derived.Test.YtnigjppddilpcaaGreatDoorGEF8
import Derived.Test.YtnigjppddilpcaaGreatDoorGEF0
import Derived.Test.YtnigjppddilpcaaGreatDoorGEF4
import Derived.Test.YtnigjppddilpcaaGreatDoorGEF10
import Derived.Test.YtnigjppddilpcaaGreatDoorGEF11
import Derived.Test.YtnigjppddilpcaaGreatDoorGEF12
namespace Go.Proofs.YtnigjppddilpcaaGreatDoor
open Go Abs
set_option linter.unusedSimpArgs false
set_option linter.unusedVariables false
def aGi (c:UInt8):Bool:=decide (c.toNat<33)||decide (126<c.toNat)||decide (c.toNat=47)||decide (c.toNat=34)
def oT (s:List UInt8):Bool:=decide (1≤s.length)&&decide (s.length≤64)&&s.all fun c=>!aGi c
theorem aOu (c:UInt8):(cond (cond (cond (decide ((c.toNat:Int)<33)) true (decide ((126:Int)<(c.toNat:Int)))) true (decide ((c.toNat:Int)=47))) true (decide ((c.toNat:Int)=34)))=aGi c:=by
 unfold aGi
 rw [Bool.eq_iff_iff]
 by_cases h1:c.toNat<33
 ·
  have:(c.toNat:Int)<33:=by omega
  simp [h1,this]
 ·
  have e1:¬(c.toNat:Int)<33:=by omega
  by_cases h2:126<c.toNat
  ·
   have:(126:Int)<(c.toNat:Int):=by omega
   simp [h1,e1,h2,this]
  ·
   have e2:¬(126:Int)<(c.toNat:Int):=by omega
   simp [h1,e1,h2,e2]
   by_cases h3:(c.toNat:Int)=47 <;> simp [h3] <;> omega
theorem aIE {τ:Type}{s:List UInt8}{i:Nat} (hi:i<s.length) (a b:τ):(((hG s (i:Int)).bind fun (x6:UInt8)=>(gd ((decide (((x6).toNat:Int)<(33:Int)))==false) (hG s (i:Int))).bind fun (x8:UInt8)=>(gd ((cond (decide (((x6).toNat:Int)<(33:Int))) true (decide ((126:Int)<((x8).toNat:Int))))==false) (hG s (i:Int))).bind fun (x10:UInt8)=>(gd ((cond (cond (decide (((x6).toNat:Int)<(33:Int))) true (decide ((126:Int)<((x8).toNat:Int)))) true (decide (((x10).toNat:Int)=(47:Int))))==false) (hG s (i:Int))).bind fun (x12:UInt8)=>cond (cond (cond (cond (decide (((x6).toNat:Int)<(33:Int))) true (decide ((126:Int)<((x8).toNat:Int)))) true (decide (((x10).toNat:Int)=(47:Int)))) true (decide (((x12).toNat:Int)=(34:Int)))) (some a) (some b)):Option τ)=some (if !aGi s[i] then b else a):=by
 rw [eW hi,Option.bind_some]
 generalize s[i]=c
 rw [← aOu]
 by_cases h1:(c.toNat:Int)<33
 ·
  simp [h1,gd]
 ·
  by_cases h2:(126:Int)<(c.toNat:Int)
  ·
   have h2':¬(c.toNat:Int)≤126:=by omega
   simp [h1,h2,h2',gd]
  ·
   by_cases h3:(c.toNat:Int)=47
   ·
    simp [h1,h2,h3,gd]
   ·
    simp only [h1,h2,h3,decide_false,cond_false,beq_self_eq_true,gd,if_true,Option.bind_some]
    by_cases h4:(c.toNat:Int)=34 <;> simp [h4]
theorem aIR {s:List UInt8} (hs:s.length≤9223372036854775807):oN s=some (oT s):=by
 unfold oN oT
 rw [iJ s.length (fun i=>!aGi (s.getD i default)) false (fun i hi=>?_) ?_,Option.bind_some,lA s fun c=>!aGi c]
 ·
  cases s.all fun c=>!aGi c
  ·
   simp [Fl.next]
  ·
   simp only [if_true,Fl.next,iE,Option.bind_some,Bool.and_true]
   congr 1
   rw [Bool.eq_iff_iff]
   by_cases h:(1:Int)≤s.length <;> simp [h] <;> omega
 ·
  unfold qJ
  rw [cG,if_neg (by omega)]
 ·
  unfold qJ
  rw [cG,if_pos (by omega),aIE hi,iW hi hs]
  simp only [List.getD_eq_getElem?_getD,List.getElem?_eq_getElem hi,Option.getD_some]
theorem aJi {s:List UInt8}:vK s=some (oT s):=by
 unfold vK oT
 by_cases h0:s.length<1∨64<s.length
 ·
  have e:(cond (decide ((s.length:Int)<1)) true (decide ((64:Int)<(s.length:Int))))=true:=by simp;omega
  rw [e]
  have:(decide (1≤s.length)&&decide (s.length≤64))=false:=by simp;omega
  rw [this];rfl
 ·
  have e:(cond (decide ((s.length:Int)<1)) true (decide ((64:Int)<(s.length:Int))))=false:=by simp;omega
  have:(decide (1≤s.length)&&decide (s.length≤64))=true:=by simp;omega
  rw [e,this,cond_false]
  rw [iJ s.length (fun i=>!aGi (s.getD i default)) false (fun i hi=>?_) ?_,Option.bind_some,lA s fun c=>!aGi c]
  ·
   cases s.all fun c=>!aGi c <;> rfl
  ·
   unfold tO
   rw [cG,if_neg (by omega)]
  ·
   unfold tO
   rw [cG,if_pos (by omega),aIE hi,iW hi (by omega)]
   simp only [List.getD_eq_getElem?_getD,List.getElem?_eq_getElem hi,Option.getD_some]
end Go.Proofs.YtnigjppddilpcaaGreatDoor
namespace Go.Proofs.YtnigjppddilpcaaGreatDoor
open Go Abs
set_option linter.unusedSimpArgs false
set_option linter.unusedVariables false
def inB (n l h:Int):Bool:=decide (l≤n)&&decide (n≤h)
theorem rG {n l h:Int}:iE n l h=some (inB n l h):=by unfold iE inB;rw [Bool.cond_eq_ite];by_cases h1:l≤n <;> simp [h1]
theorem aB5 {n l h:Int}:nF n l h=some (inB n l h):=by unfold nF inB;rw [Bool.cond_eq_ite];by_cases h1:l≤n <;> simp [h1]
def xW (a b:bG):Bool:=decide (a.Queue=b.Queue)&&decide (a.ToStart=b.ToStart)&&decide (a.ToClose=b.ToClose)&&decide (a.Total=b.Total)&&decide (a.Beat=b.Beat)&&decide (a.First=b.First)&&decide (a.Coef=b.Coef)&&decide (a.Most=b.Most)&&decide (a.Attempts=b.Attempts)&&decide (a.Fatal=b.Fatal)
theorem aBv {a b:bG} (h:fH a):jF a b=some (xW a b):=by
 have hf:a.Fatal.length≤9223372036854775807:=h.2.2.2.2.2.2.2.2.2.1
 unfold jF xW
 rw [aFO hf]
 simp only [kK,Option.bind_some,uO]
 by_cases h1:a.ToStart=b.ToStart
 ·
  by_cases h2:a.ToClose=b.ToClose
  ·
   by_cases h3:a.Total=b.Total
   ·
    by_cases h4:a.Beat=b.Beat
    ·
     by_cases h5:a.First=b.First
     ·
      by_cases h6:a.Coef=b.Coef
      ·
       by_cases h7:a.Most=b.Most
       ·
        by_cases h8:a.Attempts=b.Attempts
        ·
         by_cases h9:a.Queue=b.Queue <;> simp [h1,h2,h3,h4,h5,h6,h7,h8,h9,gd]
        ·
         simp [h1,h2,h3,h4,h5,h6,h7,h8]
       ·
        simp [h1,h2,h3,h4,h5,h6,h7]
      ·
       simp [h1,h2,h3,h4,h5,h6]
     ·
      simp [h1,h2,h3,h4,h5]
    ·
     simp [h1,h2,h3,h4]
   ·
    simp [h1,h2,h3]
  ·
   simp [h1,h2]
 ·
  simp [h1]
theorem aOo {a b:List (List UInt8)} (hlen:a.length=b.length):((List.range a.length).all fun i=>decide (a[i]?=b[i]?))=decide (a=b):=by
 rw [Bool.eq_iff_iff,List.all_eq_true]
 simp only [decide_eq_true_eq]
 constructor
 ·
  refine fun h6=>List.ext_getElem? fun i=>?_
  by_cases hi:i<a.length
  ·
   exact h6 i (List.mem_range.2 hi)
  ·
   rw [List.getElem?_eq_none (by omega),List.getElem?_eq_none (by omega)]
 ·
  intro e i _;rw [e]
theorem uL {a b:bG} (h:fH a):jL a b=some (xW a b):=by
 have hf:a.Fatal.length≤9223372036854775807:=h.2.2.2.2.2.2.2.2.2.1
 unfold jL xW
 have hl:(a.Fatal.length:Int)=b.Fatal.length→dR (kQ a b) (0:Int)=some (if decide (a.Fatal=b.Fatal) then .go () else .done false):=fun hlen=>by
  rw [iJ a.Fatal.length (fun i=>decide (a.Fatal[i]?=b.Fatal[i]?)) false (fun i hi=>?_) ?_]
  ·
   rw [aOo (by omega)]
  ·
   unfold kQ
   rw [cG,if_neg (by omega)]
  ·
   unfold kQ
   have hb:i<b.Fatal.length:=by omega
   rw [cG,if_pos (by omega),eW hi,Option.bind_some,eW hb,Option.bind_some,uO,iW hi hf,List.getElem?_eq_getElem hi,List.getElem?_eq_getElem hb]
   simp only [Option.some.injEq,decide_eq_true_eq]
   split <;> rfl
 by_cases h0:(a.Fatal.length:Int)=b.Fatal.length
 ·
  rw [hl h0]
  by_cases h9:a.Fatal=b.Fatal
  ·
   simp only [h9,decide_true,if_true,Option.bind_some,Fl.next,Bool.not_true]
   cases decide (a.Queue=b.Queue) <;> cases decide (a.ToStart=b.ToStart) <;> cases decide (a.ToClose=b.ToClose) <;> cases decide (a.Total=b.Total) <;> cases decide (a.Beat=b.Beat) <;> first | rfl | (cases decide (a.First=b.First) <;> cases decide (a.Coef=b.Coef) <;> cases decide (a.Most=b.Most) <;> cases decide (a.Attempts=b.Attempts) <;> rfl)
  ·
   simp only [h9,h0,decide_true,decide_false,Option.bind_some,Fl.next,Bool.and_false]
   simp
 ·
  have h9:a.Fatal≠b.Fatal:=fun e=>h0 (by rw [e])
  simp [h0,h9]
theorem aL2 {ks:List (List UInt8)} (h:ks.length≤9223372036854775807):dM ks=some (ks.any iY):=by
 unfold dM eU
 obtain ⟨x,h1,h2⟩:=yN (body:=dO ks) ks iY (fun i hi=>by
  unfold dO
  rw [cG,if_pos (by omega),eW hi,Option.bind_some,lK,Option.bind_some,iW hi h]
  show cond (iY ks[i]) _ _=_
  cases iY ks[i] <;> rfl) (by
  unfold dO
  rw [cG,if_neg (by omega)])
 rw [h1,Option.bind_some,h2]
def six (o:bG):List Int:=[o.ToStart,o.ToClose,o.Total,o.Beat,o.First,o.Most]
def kU (o:bG):Bool:=(decide (o.Queue=[])||jJ o.Queue)&&decide (o.Fatal.length≤64)&&(six o).all (fun n=>inB n 0 1099511627776)&&inB o.Coef 0 10000&&inB o.Attempts 0 1000&&!o.Fatal.any iY
theorem wM {o:bG} (h:fH o):iD o=some (kU o):=by
 have hf:o.Fatal.length≤9223372036854775807:=h.2.2.2.2.2.2.2.2.2.1
 unfold iD kU
 rw [rI,aL2 hf]
 simp only [rG]
 rw [iJ (six o).length (fun i=>inB ((six o).getD i default) 0 1099511627776) false (fun i hi=>?_) ?_,Option.bind_some,lA (six o) fun n=>inB n 0 1099511627776]
 ·
  by_cases h0:(64:Int)<o.Fatal.length
  ·
   have h1:¬o.Fatal.length≤64:=by omega
   by_cases hq:o.Queue=[] <;> cases jJ o.Queue <;> simp [hq,h0,h1,gd]
  ·
   have h1:o.Fatal.length≤64:=by omega
   cases (six o).all fun n=>inB n 0 1099511627776
   ·
    by_cases hq:o.Queue=[] <;> cases jJ o.Queue <;> simp [hq,h0,h1,gd,Fl.next]
   ·
    by_cases hq:o.Queue=[] <;> cases jJ o.Queue <;> cases inB o.Coef 0 10000 <;> cases inB o.Attempts 0 1000 <;> simp [hq,h0,h1,gd,Fl.next]
 ·
  unfold kS
  rw [cG,if_neg (by unfold six;omega)]
 ·
  unfold kS
  have hi':i<[o.ToStart,o.ToClose,o.Total,o.Beat,o.First,o.Most].length:=hi
  rw [cG,if_pos (by omega),eW hi',Option.bind_some,rG,Option.bind_some,iW hi (by unfold six;simp)]
  simp only [List.getD_eq_getElem?_getD,List.getElem?_eq_getElem hi,Option.getD_some]
  show cond (!inB (six o)[i] 0 1099511627776) _ _=_
  cases inB (six o)[i] 0 1099511627776 <;> rfl
theorem xX {o:bG} (h:fH o):kI o=some (kU o):=by
 have hf:o.Fatal.length≤9223372036854775807:=h.2.2.2.2.2.2.2.2.2.1
 unfold kI kU
 rw [rM]
 simp only [aB5]
 rw [iJ (six o).length (fun i=>inB ((six o).getD i default) 0 1099511627776) false (fun i hi=>?_) ?_,Option.bind_some,lA (six o) fun n=>inB n 0 1099511627776]
 ·
  rw [iJ o.Fatal.length (fun i=>!iY (o.Fatal.getD i default)) false (fun i hi=>?_) ?_,Option.bind_some,lA o.Fatal fun n=>!iY n,← sK]
  ·
   have e:decide ((o.Fatal.length:Int)≤64)=decide (o.Fatal.length≤64):=by rw [Bool.eq_iff_iff];simp;omega
   rw [e]
   cases (six o).all fun n=>inB n 0 1099511627776
   ·
    simp [Fl.next]
   ·
    cases o.Fatal.any iY
    ·
     by_cases hq:o.Queue=[] <;> cases jJ o.Queue <;> cases inB o.Coef 0 10000 <;> cases inB o.Attempts 0 1000 <;> simp [hq,gd,Fl.next]
    ·
     simp [Fl.next]
  ·
   unfold mE
   rw [cG,if_neg (by omega)]
  ·
   unfold mE
   rw [cG,if_pos (by omega),eW hi,Option.bind_some,iW hi hf]
   simp only [List.getD_eq_getElem?_getD,List.getElem?_eq_getElem hi,Option.getD_some]
   show cond (iY o.Fatal[i]) _ _=_
   cases iY o.Fatal[i] <;> rfl
 ·
  unfold mD
  rw [cG,if_neg (by unfold six;omega)]
 ·
  unfold mD
  have hi':i<[o.ToStart,o.ToClose,o.Total,o.Beat,o.First,o.Most].length:=hi
  rw [cG,if_pos (by omega),eW hi',Option.bind_some,aB5,Option.bind_some,iW hi (by unfold six;simp)]
  simp only [List.getD_eq_getElem?_getD,List.getElem?_eq_getElem hi,Option.getD_some]
  show cond (!inB (six o)[i] 0 1099511627776) _ _=_
  cases inB (six o)[i] 0 1099511627776 <;> rfl
def jE (x:aC):Bool:=match x.Items with
 | [a,_]=>decide (x.Kind=4)&&decide (a.Kind=3)&&jJ a.Text
 | _=>false
def wT (v:aC):Bool:=match v.Items with
 | [_,b]=>decide (v.Kind=4)&&decide (b.Kind=4)&&b.Items.all jE
 | _=>false
theorem aIU {α:Type}{l:List α} (h:l.length=2):∃ a b,l=[a,b]:=by
 match l,h with
 | [a,b],_=>exact ⟨a,b,rfl⟩
theorem aBi {x:aC} (h:¬x.Items.length=2):jE x=false:=by
 unfold jE
 split
 ·
  rename_i hx;exact absurd (by rw [hx];rfl) h
 ·
  rfl
theorem aCD {x:aC} (h:¬x.Items.length=2):wT x=false:=by
 unfold wT
 split
 ·
  rename_i hx;exact absurd (by rw [hx];rfl) h
 ·
  rfl
theorem uJ {x:aC}:(cond (!decide (x.Kind=4)) true (!decide ((x.Items.length:Int)=2)))=!(decide (x.Kind=4)&&decide (x.Items.length=2)):=by
 by_cases h1:x.Kind=4
 ·
  rw [Bool.eq_iff_iff];simp [h1];omega
 ·
  simp [h1]
theorem aLY (x:aC):oD x=some (!jE x):=by
 unfold oD
 simp only [uJ,rI]
 by_cases h2:x.Items.length=2
 ·
  obtain ⟨a,b,hab⟩:=aIU h2
  unfold jE
  rw [hab]
  have h0:hG [a,b] (0:Int)=some a:=rfl
  rw [h0]
  by_cases h1:x.Kind=4 <;> by_cases h3:a.Kind=3 <;> simp [h1,h3,gd]
 ·
  have:jE x=false:=aBi h2
  simp [this,h2,gd]
theorem aM3 {v:aC} (hv:cL v):rH v=some (wT v):=by
 obtain ⟨k0,k1,k2,k3,k4⟩:=(dH v).1 hv
 unfold rH
 simp only [uJ]
 by_cases h2:v.Items.length=2
 ·
  obtain ⟨a,b,hab⟩:=aIU h2
  obtain ⟨_,_,_,hb,_⟩:=(dH b).1 (k3.2.2 b (by rw [hab];simp))
  unfold wT
  rw [hab]
  have h0:hG [a,b] (1:Int)=some b:=rfl
  have hC:dL b.Items=some (b.Items.any fun x=>!jE x):=by
   unfold dL eT
   obtain ⟨x,h1,h2⟩:=yN (body:=dN b.Items) b.Items (fun x=>!jE x) (fun i hi=>by
    unfold dN
    rw [cG,if_pos (by omega),eW hi,Option.bind_some,aLY,Option.bind_some,iW hi hb.1]
    cases jE b.Items[i] <;> rfl) (by
    unfold dN
    rw [cG,if_neg (by omega)])
   rw [h1,Option.bind_some,h2]
  have hA:(!b.Items.any fun x=>!jE x)=b.Items.all jE:=by rw [sK];simp
  rw [h0]
  by_cases h1:v.Kind=4 <;> by_cases h3:b.Kind=4
  ·
   simp only [h1,h3,List.length_cons,List.length_nil,decide_true,Bool.and_self,Bool.not_true,cond_false,beq_self_eq_true,gd,if_true,Option.bind_some,hC,hA,Bool.true_and]
  ·
   simp [h1,h3,gd]
  ·
   simp [h1,h3,gd]
  ·
   simp [h1,h3,gd]
 ·
  have:wT v=false:=aCD h2
  simp [this,h2,gd]
theorem aJj {v:aC} (hv:cL v):vL v=some (wT v):=by
 obtain ⟨k0,k1,k2,k3,k4⟩:=(dH v).1 hv
 unfold vL
 simp only [uJ]
 by_cases h2:v.Items.length=2
 ·
  obtain ⟨a,b,hab⟩:=aIU h2
  obtain ⟨_,_,_,hb,_⟩:=(dH b).1 (k3.2.2 b (by rw [hab];simp))
  have h0:hG v.Items (1:Int)=some b:=by rw [hab];rfl
  have hi2:wT v=(decide (v.Kind=4)&&decide (b.Kind=4)&&b.Items.all jE):=by unfold wT;rw [hab]
  have hC:dR (pY v) (0:Int)=some (if b.Items.all jE then .go () else .done false):=by
   rw [iJ b.Items.length (fun i=>jE (b.Items.getD i default)) false (fun i hi=>?_) ?_,lA b.Items jE]
   ·
    unfold pY
    rw [h0,Option.bind_some,cG,if_neg (by omega)]
   ·
    unfold pY
    rw [h0,Option.bind_some,cG,if_pos (by omega),Option.bind_some,eW hi,Option.bind_some,iW hi hb.1]
    simp only [List.getD_eq_getElem?_getD,List.getElem?_eq_getElem hi,Option.getD_some,uJ,rM]
    generalize b.Items[i]=x
    by_cases h2:x.Items.length=2
    ·
     obtain ⟨c,d,hcd⟩:=aIU h2
     have hp:jE x=(decide (x.Kind=4)&&decide (c.Kind=3)&&jJ c.Text):=by unfold jE;rw [hcd]
     have h0:hG x.Items (0:Int)=some c:=by rw [hcd];rfl
     rw [h0,hp,h2]
     by_cases h1:x.Kind=4 <;> by_cases h3:c.Kind=3
     ·
      simp only [h1,h3,decide_true,Bool.and_self,Bool.not_true,cond_false,beq_self_eq_true,gd,if_true,Option.bind_some,Bool.true_and]
      cases jJ c.Text <;> rfl
     ·
      simp [h1,h3,gd]
     ·
      simp [h1,h3,gd]
     ·
      simp [h1,h3,gd]
    ·
     have:jE x=false:=aBi h2
     simp [this,h2,gd]
  rw [h0,h2,hC,hi2]
  by_cases h1:v.Kind=4 <;> by_cases h3:b.Kind=4
  ·
   simp only [h1,h3,decide_true,Bool.and_self,Bool.not_true,cond_false,beq_self_eq_true,gd,if_true,Option.bind_some,Bool.true_and]
   cases b.Items.all jE <;> rfl
  ·
   simp [h1,h3,gd]
  ·
   simp [h1,h3,gd]
  ·
   simp [h1,h3,gd]
 ·
  have:wT v=false:=aCD h2
  simp [this,h2,gd]
end Go.Proofs.YtnigjppddilpcaaGreatDoor
namespace Go.Proofs.YtnigjppddilpcaaGreatDoor
open Go Abs
set_option linter.unusedSimpArgs false
set_option linter.unusedVariables false
def eR:aC:=⟨0,0,[],[],[]⟩
def wA:bG:=⟨[],0,0,0,0,0,0,0,0,[]⟩
theorem aNf:cL eR:=by
 refine (dH _).2 ⟨?_,?_,?_,?_,?_⟩ <;> simp [eR,rB,okS,vF]
def fG (k:Int):fU :=
 if k=1 then ⟨true,true,false,false,true,true⟩
 else if k=2 then ⟨true,false,false,false,false,false⟩
 else if k=3 then ⟨true,false,false,true,false,false⟩
 else if k=4 then ⟨true,false,false,false,false,false⟩
 else if k=5 then ⟨true,true,true,true,true,false⟩
 else if k=6 then ⟨true,true,true,false,true,false⟩
 else if k=7 then ⟨false,true,false,true,true,false⟩
 else if k=8 then ⟨false,true,true,false,true,false⟩
 else if k=9 then ⟨false,false,true,true,true,false⟩
 else if k=12 then ⟨false,true,false,false,true,false⟩
 else ⟨false,false,false,false,true,false⟩
theorem aLV (k:Int):pM k=some (fG k):=by
 unfold pM fG
 by_cases h1:k=1
 ·
  simp [h1]
 by_cases h2:k=2
 ·
  simp [h2]
 by_cases h3:k=3
 ·
  simp [h3]
 by_cases h4:k=4
 ·
  simp [h4]
 by_cases h5:k=5
 ·
  simp [h5]
 by_cases h6:k=6
 ·
  simp [h6]
 by_cases h7:k=7
 ·
  simp [h7]
 by_cases h8:k=8
 ·
  simp [h8]
 by_cases h9:k=9
 ·
  simp [h9]
 by_cases h12:k=12
 ·
  simp [h12]
 simp [h1,h2,h3,h4,h5,h6,h7,h8,h9,h12]
def qU (c:cW) (u:fU):Bool :=
 (u.seq_||decide (c.Seq=0))&&(u.name_||decide (c.Name=[]))&&(u.key_||decide (c.Key=[]))&&(u.n_||decide (c.N=0))&&(u.data_||eF c.Data eR)&&(u.opts_||xW c.Opts wA)
theorem aOv {c:cW}{u:fU} (h:tB c):sT c u=some (qU c u):=by
 unfold sT qU
 have hd:cL c.Data:=h.2.2.2.2.2.1
 have ho:fH c.Opts:=h.2.2.2.2.2.2
 rw [show (aC.mk 0 0 [] [] [])=eR from rfl,show (bG.mk [] 0 0 0 0 0 0 0 0 [])=wA from rfl,aBJ hd,aBv ho]
 cases u.seq_ <;> cases u.name_ <;> cases u.key_ <;> cases u.n_ <;> cases decide (c.Seq=0) <;> cases decide (c.Name=[]) <;> cases decide (c.Key=[]) <;> cases decide (c.N=0) <;> first | rfl | (cases u.data_ <;> cases u.opts_ <;> cases eF c.Data eR <;> rfl)
def aL4 (c:cW):Bool :=
 if c.Kind=3 then inB c.N 1 1099511627776
 else if c.Kind=5 then inB c.N 0 2
 else if c.Kind=9 then inB c.N 0 1
 else if c.Kind=7 then decide (c.N=-1)||(inB c.N 0 2147483647&&decide (c.Data.Kind=0))
 else if c.Kind=10 then decide (c.Data.Kind=5)
 else if c.Kind=14 then wT c.Data
 else true
theorem aL5 {c:cW} (h:tB c):pN c=some (aL4 c):=by
 unfold pN aL4
 rw [aM3 h.2.2.2.2.2.1]
 simp only [rG,cG,Option.bind_some]
 by_cases h3:c.Kind=3
 ·
  simp only [h3,if_true]
 by_cases h5:c.Kind=5
 ·
  simp only [h5,if_true,Int.reduceEq,if_false]
 by_cases h9:c.Kind=9
 ·
  simp only [h9,if_true,Int.reduceEq,if_false]
 by_cases h7:c.Kind=7
 ·
  simp only [h7,if_true,Int.reduceEq,if_false]
  by_cases hn:c.N=-1
  ·
   simp [hn,gd]
  ·
   cases inB c.N 0 2147483647 <;> by_cases hk:c.Data.Kind=0 <;> simp [hn,hk,gd]
 by_cases h10:c.Kind=10
 ·
  simp only [h10,if_true,Int.reduceEq,if_false]
 by_cases h14:c.Kind=14
 ·
  simp only [h14,if_true,Int.reduceEq,if_false]
 simp only [h3,h5,h9,h7,h10,h14,if_false]
noncomputable def fJ (c:cW):Bool :=
 inB c.Kind 1 14&&qU c (fG c.Kind)&&cH c.Data&&kU c.Opts&&(!(fG c.Kind).seq_||inB c.Seq 1 2000)&&(!(fG c.Kind).key_||oT c.Key)
  && (!(fG c.Kind).name_||(if c.Kind=12 then !iY c.Name else jJ c.Name))&&aL4 c
theorem aDf {c:cW} (h:tB c):rF c=some (fJ c):=by
 have hd:cL c.Data:=h.2.2.2.2.2.1
 have ho:fH c.Opts:=h.2.2.2.2.2.2
 have hk:c.Key.length≤9223372036854775807:=Nat.le_trans h.2.2.2.1 (by decide)
 unfold rF fJ
 rw [aLV,Option.bind_some]
 simp only [aOv h,aA3 hd,wM ho,aIR hk,rI,aL5 h,rG,Option.bind_some]
 generalize fG c.Kind=u
 obtain ⟨useq,uname,ukey,un,udata,uopts⟩:=u
 simp only
 generalize qU c _=b
 cases inB c.Kind 1 14
 ·
  simp [gd]
 cases b
 ·
  simp [gd]
 cases cH c.Data
 ·
  simp [gd]
 cases kU c.Opts
 ·
  simp [gd]
 simp only [Bool.not_true,cond_false,beq_self_eq_true,gd,if_true,Option.bind_some,Bool.true_and]
 have hl:decide ((4096:Int)<(c.Name.length:Int))=iY c.Name:=rfl
 rw [hl]
 by_cases h12:c.Kind=12
 ·
  simp only [h12,decide_true,Bool.not_true,cond_true,cond_false,if_true]
  cases useq <;> cases ukey <;> cases uname <;> cases inB c.Seq 1 2000 <;> cases oT c.Key <;> cases iY c.Name <;> cases aL4 c <;> rfl
 ·
  simp only [h12,decide_false,Bool.not_false,cond_true,cond_false,if_false]
  cases useq <;> cases ukey <;> cases uname <;> cases inB c.Seq 1 2000 <;> cases oT c.Key <;> cases jJ c.Name <;> cases aL4 c <;> rfl
theorem aJd:kU wA=true:=by decide
theorem aFu {p:bG} (h:xW p wA=true):p=wA:=by
 unfold xW at h
 simp only [Bool.and_eq_true,decide_eq_true_eq] at h
 obtain ⟨⟨⟨⟨⟨⟨⟨⟨⟨h1,h2⟩,h3⟩,h4⟩,h5⟩,h6⟩,h7⟩,h8⟩,h9⟩,h10⟩:=h
 cases p;simp_all [wA]
theorem aFW (v:aC):eF v v=true:=(aHn (sW v) v v (Nat.le_refl _)).2 rfl
theorem aFt (p:bG):xW p p=true:=by simp [xW]
theorem aHZ {a b:cW} (hd:cL a.Data) (ho:fH a.Opts):uK a b=some (decide (a.Kind=b.Kind)&&decide (a.Seq=b.Seq)&&decide (a.Name=b.Name)&&decide (a.Key=b.Key)&&decide (a.N=b.N)&&eF a.Data b.Data&&xW a.Opts b.Opts):=by
 unfold uK
 rw [aFG hd,uL ho]
 cases decide (a.Kind=b.Kind) <;> cases decide (a.Seq=b.Seq) <;> cases decide (a.Name=b.Name) <;> cases decide (a.Key=b.Key) <;> cases decide (a.N=b.N) <;> first | rfl | (cases eF a.Data b.Data <;> rfl)
def aGU (c:cW):cW :=
 ⟨c.Kind,if (fG c.Kind).seq_ then 0 else c.Seq,if (fG c.Kind).name_ then [] else c.Name,if (fG c.Kind).key_ then [] else c.Key,if (fG c.Kind).n_ then 0 else c.N,
  if (fG c.Kind).data_ then eR else c.Data,if (fG c.Kind).opts_ then wA else c.Opts⟩
theorem aKy (c:cW):xA c=some (aGU c):=by
 unfold xA aGU fG
 obtain ⟨k,sq,nm,ky,n,d,o⟩:=c
 simp only
 by_cases h1:k=1
 ·
  subst h1;rfl
 by_cases h2:k=2
 ·
  subst h2;rfl
 by_cases h3:k=3
 ·
  subst h3;rfl
 by_cases h4:k=4
 ·
  subst h4;rfl
 by_cases h5:k=5
 ·
  subst h5;rfl
 by_cases h6:k=6
 ·
  subst h6;rfl
 by_cases h7:k=7
 ·
  subst h7;rfl
 by_cases h8:k=8
 ·
  subst h8;rfl
 by_cases h9:k=9
 ·
  subst h9;rfl
 by_cases h12:k=12
 ·
  subst h12;rfl
 simp [h1,h2,h3,h4,h5,h6,h7,h8,h9,h12,eR]
theorem aGr {c:cW} (h:tB c):vM c=some (fJ c):=by
 have hd:cL c.Data:=h.2.2.2.2.2.1
 have ho:fH c.Opts:=h.2.2.2.2.2.2
 unfold vM fJ
 rw [aKy,yD hd,rM,aJi,xX ho,aJj hd]
 have hb:uK (aGU c) ⟨c.Kind,0,[],[],0,eR,wA⟩=some (qU c (fG c.Kind)):=by
  rw [aHZ (by unfold aGU;simp only;split;exact aNf;exact hd) (by
   unfold aGU;simp only;split
   ·
    refine ⟨?_,?_,?_,?_,?_,?_,?_,?_,?_,?_⟩ <;> simp [wA,rB,okS,vF]
   ·
    exact ho)]
  unfold aGU qU
  generalize fG c.Kind=u
  obtain ⟨useq,uname,ukey,un,udata,uopts⟩:=u
  have z1:=aFW eR
  have z2:=aFt wA
  cases useq <;> cases uname <;> cases ukey <;> cases un <;> cases udata <;> cases uopts <;> simp [z1,z2]
 simp only [aB5,Option.bind_some]
 cases hin:inB c.Kind 1 14
 ·
  simp [gd]
 rw [show (cW.mk c.Kind 0 [] [] 0 ⟨0,0,[],[],[]⟩ ⟨[],0,0,0,0,0,0,0,0,[]⟩)=⟨c.Kind,0,[],[],0,eR,wA⟩ from rfl]
 simp only [Bool.not_true,beq_self_eq_true,gd,if_true,Option.bind_some,hb,cond_false,Bool.true_and]
 cases hbb:qU c (fG c.Kind)
 ·
  simp [gd]
 simp only [Bool.not_true,beq_self_eq_true,gd,if_true,Option.bind_some,cond_false,Bool.true_and]
 cases cH c.Data
 ·
  simp
 simp only [Bool.not_true,cond_false,Bool.true_and]
 have hop:(fG c.Kind).opts_=true∨kU c.Opts=true:=by
  cases hu:(fG c.Kind).opts_
  ·
   refine .inr ?_
   unfold qU at hbb
   rw [hu] at hbb
   simp only [Bool.and_eq_true,Bool.false_or] at hbb
   rw [aFu hbb.2,aJd]
  ·
   exact .inl rfl
 have hl:decide ((c.Name.length:Int)≤4096)=!iY c.Name:=by unfold iY;rw [Bool.eq_iff_iff];simp
 rw [hl]
 unfold aL4
 clear hb hbb hin h hd ho hl
 obtain ⟨k,sq,nm,ky,n,d,o⟩:=c
 simp only at hop ⊢
 generalize inB sq 1 2000=b1
 generalize jJ nm=b2
 generalize oT ky=b3
 generalize kU o=b4 at *
 generalize iY nm=b5
 generalize wT d=b6
 by_cases h1:k=1
 ·
  subst h1
  cases b1 <;> cases b2 <;> cases b4 <;> rfl
 by_cases h2:k=2
 ·
  subst h2
  obtain rfl:b4=true:=by simpa [fG] using hop
  cases b1 <;> rfl
 by_cases h3:k=3
 ·
  subst h3
  obtain rfl:b4=true:=by simpa [fG] using hop
  cases b1 <;> simp [fG]
 by_cases h4:k=4
 ·
  subst h4
  obtain rfl:b4=true:=by simpa [fG] using hop
  cases b1 <;> rfl
 by_cases h5:k=5
 ·
  subst h5
  obtain rfl:b4=true:=by simpa [fG] using hop
  cases b1 <;> cases b2 <;> cases b3 <;> simp [fG]
 by_cases h6:k=6
 ·
  subst h6
  obtain rfl:b4=true:=by simpa [fG] using hop
  cases b1 <;> cases b2 <;> cases b3 <;> rfl
 by_cases h7:k=7
 ·
  subst h7
  obtain rfl:b4=true:=by simpa [fG] using hop
  by_cases hn:n=-1
  ·
   cases b2 <;> simp [fG,hn]
  ·
   cases b2 <;> cases inB n 0 2147483647 <;> by_cases hk:d.Kind=0 <;> simp [fG,hn,hk]
 by_cases h8:k=8
 ·
  subst h8
  obtain rfl:b4=true:=by simpa [fG] using hop
  cases b2 <;> cases b3 <;> rfl
 by_cases h9:k=9
 ·
  subst h9
  obtain rfl:b4=true:=by simpa [fG] using hop
  cases b3 <;> simp [fG]
 by_cases h10:k=10
 ·
  subst h10
  obtain rfl:b4=true:=by simpa [fG] using hop
  simp [fG]
 by_cases h12:k=12
 ·
  subst h12
  obtain rfl:b4=true:=by simpa [fG] using hop
  simp [fG]
 by_cases h14:k=14
 ·
  subst h14
  obtain rfl:b4=true:=by simpa [fG] using hop
  simp [fG]
 ·
  have:b4=true:=by simpa [fG,h1,h2,h3,h4,h5,h6,h7,h8,h9,h10,h12,h14] using hop
  subst this
  simp [fG,h1,h2,h3,h4,h5,h6,h7,h8,h9,h10,h12,h14]
end Go.Proofs.YtnigjppddilpcaaGreatDoor
namespace Go.Proofs.YtnigjppddilpcaaGreatDoor
open Go Abs
set_option linter.unusedSimpArgs false
set_option linter.unusedVariables false
end Go.Proofs.YtnigjppddilpcaaGreatDoor
namespace Go.Proofs.YtnigjppddilpcaaGreatDoor
open Go Abs
set_option linter.unusedSimpArgs false
set_option linter.unusedVariables false
def aD7 (o:bG):List UInt8:=tT o.Queue++jI o.ToStart++jI o.ToClose++jI o.Total++jI o.Beat++jI o.First++jI o.Coef++jI o.Most++jI o.Attempts++jI o.Fatal.length++o.Fatal.flatMap tT
theorem aHJ {α:Type} (f:α→List UInt8) (m:Nat):∀ (l:List α),(∀ x∈l,(f x).length≤m)→(l.flatMap f).length≤l.length*m
 | [],_=>by simp
 | x :: l,h=>by
  have h1:=h x (by simp)
  have h2:=aHJ f m l (fun y hy=>h y (by simp [hy]))
  simp only [List.flatMap_cons,List.length_append,List.length_cons,Nat.add_mul];omega
theorem aKn {s:List UInt8} (h:jJ s=true):s.length≤64:=by
 unfold jJ at h
 simp only [Bool.and_eq_true,decide_eq_true_eq] at h
 exact h.1.1.2
theorem xV {o:bG} (h:kU o=true):o.Queue.length≤64∧o.Fatal.length≤64∧∀ s∈o.Fatal,s.length≤4096:=by
 unfold kU at h
 simp only [Bool.and_eq_true,Bool.or_eq_true,decide_eq_true_eq,Bool.not_eq_true',List.any_eq_false,iY,decide_eq_false_iff_not] at h
 refine ⟨?_,h.1.1.1.1.2,fun s hs=>by have:=h.2 s hs;omega⟩
 rcases h.1.1.1.1.1 with hq | hq
 ·
  rw [hq];simp
 ·
  exact aKn hq
theorem aCM {o:bG} (h:fH o) (hp:kU o=true):(aD7 o).length≤300000:=by
 obtain ⟨h1,h2,h3⟩:=xV hp
 obtain ⟨k0,k1,k2,k3,k4,k5,k6,k7,k8,k9⟩:=h
 have a0:=rN (s:=o.Queue) (by omega)
 have a1:=oG k1
 have a2:=oG k2
 have a3:=oG k3
 have a4:=oG k4
 have a5:=oG k5
 have a6:=oG k6
 have a7:=oG k7
 have a8:=oG k8
 have a9:=wC k9.1
 have a10:=aHJ tT 4106 o.Fatal (fun s hs=>by have:=h3 s hs;have:=rN (s:=s) (by omega);omega)
 unfold aD7
 simp only [List.length_append]
 omega
theorem aL7 {b:List UInt8}{o:bG} (h:fH o) (hp:kU o=true) (hb:b.length≤100000000000):pO b o=some (b++aD7 o):=by
 obtain ⟨h1,h2,h3⟩:=xV hp
 have hl:=aCM h hp
 obtain ⟨k0,k1,k2,k3,k4,k5,k6,k7,k8,k9⟩:=h
 have hok:rB (o.Fatal.length:Int):=⟨by omega,by omega⟩
 unfold aD7 at hl ⊢
 simp only [List.length_append] at hl
 unfold pO
 simp only [kK,Option.bind_some]
 rw [aL9 (by first | omega | (simp only [List.length_append];omega)) (by omega),Option.bind_some,aB1 (by first | omega | (simp only [List.length_append];omega)) k1,Option.bind_some,aB1 (by first | omega | (simp only [List.length_append];omega)) k2,Option.bind_some,
  aB1 (by first | omega | (simp only [List.length_append];omega)) k3,Option.bind_some,aB1 (by first | omega | (simp only [List.length_append];omega)) k4,Option.bind_some,aB1 (by first | omega | (simp only [List.length_append];omega)) k5,Option.bind_some,
  aB1 (by first | omega | (simp only [List.length_append];omega)) k6,Option.bind_some,aB1 (by first | omega | (simp only [List.length_append];omega)) k7,Option.bind_some,aB1 (by first | omega | (simp only [List.length_append];omega)) k8,Option.bind_some,
  aB1 (by first | omega | (simp only [List.length_append];omega)) hok,Option.bind_some]
 rw [tA 1000000000000 o.Fatal tT _ (by first | omega | (simp only [List.length_append];omega)) (fun s i hi hs=>?_) (fun s=>?_)]
 ·
  simp
 ·
  unfold pB
  simp only [List.length_append] at hs
  have:=aCT o.Fatal[i]
  rw [cG,if_pos (by simp only;omega),eW hi,Option.bind_some,aL9 (by simp only;omega) (by omega),Option.bind_some,iW hi k9.1]
 ·
  unfold pB
  rw [cG,if_neg (by simp only;omega)]
theorem aD3 {b:List UInt8}{o:bG} (h:fH o) (hb:b.length≤100000000000):jV b o=some (b++if kU o then aD7 o else []):=by
 unfold jV
 rw [xO (by omega),wM h]
 cases hp:kU o
 ·
  simp
 ·
  simp [aL7 h hp hb]
theorem aB6 {b:List UInt8}{o:bG} (h:fH o) (hb:b.length≤100000000000):lH b o=some (b++if kU o then aD7 o else []):=by
 unfold lH
 rw [mZ (by simp;omega),xX h]
 cases hp:kU o
 ·
  simp
 ·
  obtain ⟨h1,h2,h3⟩:=xV hp
  have hl:=aCM h hp
  obtain ⟨k0,k1,k2,k3,k4,k5,k6,k7,k8,k9⟩:=h
  have hok:rB (o.Fatal.length:Int):=⟨by omega,by omega⟩
  unfold aD7 at hl ⊢
  simp only [List.length_append] at hl
  simp only [Option.bind_some,List.nil_append,Bool.not_true,cond_false,if_true]
  rw [aHe (by omega) (by omega),Option.bind_some]
  have hns:∀ n∈[o.ToStart,o.ToClose,o.Total,o.Beat,o.First,o.Coef,o.Most,o.Attempts,(o.Fatal.length:Int)],rB n:=by
   simp only [List.mem_cons,List.not_mem_nil,or_false]
   rintro n (rfl | rfl | rfl | rfl | rfl | rfl | rfl | rfl | rfl) <;> assumption
  rw [tA 1000000000000 [o.ToStart,o.ToClose,o.Total,o.Beat,o.First,o.Coef,o.Most,o.Attempts,(o.Fatal.length:Int)] jI _ (by simp only [List.length_append,List.flatMap_cons,List.flatMap_nil,List.length_nil];omega) (fun s i hi hs=>?_) (fun s=>?_),Option.bind_some]
  ·
   rw [tA 1000000000000 o.Fatal tT _ (by simp only [List.length_append,List.flatMap_cons,List.flatMap_nil,List.length_nil];omega) (fun s i hi hs=>?_) (fun s=>?_)]
   ·
    simp
   ·
    unfold lN
    simp only [List.length_append] at hs
    have:=aCT o.Fatal[i]
    rw [cG,if_pos (by simp only;omega),eW hi,Option.bind_some,aHe (by simp only;omega) (by omega),Option.bind_some,iW hi k9.1]
   ·
    unfold lN
    rw [cG,if_neg (by simp only;omega)]
  ·
   unfold lM
   simp only [List.length_append] at hs
   rw [cG,if_pos (by simp only;omega),eW hi,Option.bind_some,aFL (by simp only;omega) (hns _ (List.getElem_mem hi)),Option.bind_some,iW hi (by simp)]
  ·
   unfold lM
   rw [cG,if_neg (by simp only;omega)]
theorem aCX {v:aC} (h:cH v=true):shr v=true∧wK false v=true∧wK true v=true:=by
 unfold cH wth at h
 simp only [Bool.and_eq_true] at h
 refine ⟨h.1.2,h.2,?_⟩
 have:=h.2
 rw [aMX (sW v) v (Nat.le_refl _)] at this
 simp only [Bool.and_eq_true] at this
 exact this.1
theorem aHD {c:cW} (h:fJ c=true):cH c.Data=true∧kU c.Opts=true:=by
 unfold fJ at h
 simp only [Bool.and_eq_true] at h
 exact ⟨h.1.1.1.1.1.2,h.1.1.1.1.2⟩
end Go.Proofs.YtnigjppddilpcaaGreatDoor
namespace Go.Proofs.YtnigjppddilpcaaGreatDoor
open Go Abs
set_option linter.unusedSimpArgs false
set_option linter.unusedVariables false
theorem aES {α:Type}{row:α→List PV}:∀ {l:List α}{x:α},x∈l→PV.bulkRow (row x)≤PV.bulkRows (l.map row)
 | [],x,h=>by simp at h
 | y :: l,x,h=>by
  simp only [List.map_cons,PV.bulkRows]
  rcases List.mem_cons.1 h with rfl | h
  ·
   omega
  ·
   have:=aES (row:=row) h;omega
theorem aHA {p:PV}:1≤p.bulk:=by cases p <;> simp [PV.bulk]
theorem aER {α:Type}{row:α→List PV} (hr:∀ x,1≤PV.bulkRow (row x)):∀ (l:List α),l.length≤PV.bulkRows (l.map row)
 | []=>by simp
 | x :: l=>by have:=hr x;have:=aER hr l;simp only [List.map_cons,PV.bulkRows,List.length_cons];omega
theorem aKK (v:aC):PV.bulkRow (bF v)=v.Text.length+PV.bulkRows (v.Items.map bF)+PV.bulkRows (v.Keys.map eA)+5:=by
 rw [cE]
 simp only [cQ,PV.bulkRow,PV.bulk,PV.ls]
 omega
theorem aMK (s:List UInt8):PV.bulkRow (eA s)=s.length+1:=by simp [eA,PV.bulkRow,PV.bulk]
theorem aHl:∀ (n:Nat) (v:aC),sW v≤n→cL v→(pL v).length≤20*PV.bulkRow (bF v):=by
 intro n
 induction n with
 | zero=>intro v h;have:=hP v;omega
 | succ n ih =>
  intro v h hv
  have hh:=hP v
  obtain ⟨k0,k1,k2,k3,k4⟩:=(dH v).1 hv
  have e1:=oG k0
  have e2:=oG k1
  have e3:=rN (s:=v.Text) (by unfold okS at k2;omega)
  have e4:=wC (n:=v.Items.length) k3.1
  have hi:∀ x∈v.Items,(pL x).length≤20*PV.bulkRow (bF x):=fun x hx=>ih x (by have:=jB hx;omega) (k3.2.2 x hx)
  rw [aH8,aKK]
  simp only [List.length_append]
  have f4:∀ l:List aC,(∀ x∈l,(pL x).length≤20*PV.bulkRow (bF x))→(l.flatMap pL).length≤20*PV.bulkRows (l.map bF):=by
   intro l
   induction l with
   | nil=>intro _;simp
   | cons x l ihl =>
    intro hl
    have a1:=ihl (fun y hy=>hl y (by simp [hy]))
    have a2:=hl x (by simp)
    simp only [List.flatMap_cons,List.length_append,List.map_cons,PV.bulkRows];omega
  have key:∀ (l:List aC) (ks:List (List UInt8)),(∀ x∈l,(pL x).length≤20*PV.bulkRow (bF x))→(∀ k∈ks,k.length≤9223372036854775807)→((l.zip ks).flatMap fun p=>tT p.2++pL p.1).length≤20*PV.bulkRows (l.map bF)+20*PV.bulkRows (ks.map eA):=by
   intro l
   induction l with
   | nil=>intro ks _ _;simp
   | cons x l ihl =>
    intro ks hl hk
    cases ks with
    | nil=>simp
    | cons k ks =>
     have a1:=ihl ks (fun y hy=>hl y (by simp [hy])) (fun y hy=>hk y (by simp [hy]))
     have a2:=hl x (by simp)
     have a4:=rN (s:=k) (hk k (by simp))
     have a5:=aMK k
     simp only [List.zip_cons_cons,List.flatMap_cons,List.length_append,List.map_cons,PV.bulkRows];omega
  have g4:=f4 v.Items hi
  have g5:=key v.Items v.Keys hi (fun k hk=>by have:=k4.2.2 k hk;unfold okS at this;omega)
  split
  ·
   omega
  ·
   split
   ·
    omega
   ·
    split
    ·
     simp only [List.length_append];omega
    ·
     split
     ·
      simp only [List.length_append];omega
     ·
      simp only [List.length_nil];omega
theorem aHG (e:bI):PV.bulkRow (cD e)=e.Name.length+e.Key.length+PV.bulkRow (bF e.Data)+PV.bulkRow (gS e.Opts)+9:=by
 rw [aKK]
 simp only [cD,gS,PV.bulkRow,PV.bulk,PV.ls]
 omega
end Go.Proofs.YtnigjppddilpcaaGreatDoor
namespace Go.Proofs.YtnigjppddilpcaaGreatDoor
open Go Abs
set_option linter.unusedSimpArgs false
set_option linter.unusedVariables false
def nO (e:bI):List Int:=[e.ID,e.Kind,e.Time,e.Seq,e.Ref,e.N,e.Code]
noncomputable def rY (e:bI):List UInt8:=(nO e).flatMap jI++tT e.Name++tT e.Key++(if wK true e.Data then pL e.Data else [])++(if kU e.Opts then aD7 e.Opts else [])
theorem aGZ {e:bI} (h:dW e):∀ n∈nO e,rB n:=by
 obtain ⟨h1,h2,h3,h4,h5,h6,h7,h8,h9,h10,h11⟩:=h
 simp only [nO,List.mem_cons,List.not_mem_nil,or_false]
 rintro n (rfl | rfl | rfl | rfl | rfl | rfl | rfl) <;> assumption
theorem aBV {e:bI} (h:dW e):((nO e).flatMap jI).length≤70:=by
 have:=aHJ jI 10 (nO e) (fun n hn=>oG (aGZ h n hn))
 simpa [nO] using this
def aEu (e:bI):Prop:=e.Name.length≤1000000000∧e.Key.length≤1000000000∧(pL e.Data).length≤1000000000
theorem aBW {e:bI} (h:dW e) (hb:PV.bulkRow (cD e)≤1048576):aEu e:=by
 have h1:=aHG e
 have h2:=aHl _ e.Data (Nat.le_refl _) h.2.2.2.2.2.2.2.2.2.1
 exact ⟨by omega,by omega,by omega⟩
theorem aIM {e:bI} (h:dW e) (hs:aEu e):(rY e).length≤4000000000:=by
 obtain ⟨s1,s2,s3⟩:=hs
 have h1:=aBV h
 have h2:=rN (s:=e.Name) (by omega)
 have h3:=rN (s:=e.Key) (by omega)
 unfold rY
 simp only [List.length_append]
 have h4:(if wK true e.Data then pL e.Data else []).length≤1000000000:=by split;exact s3;simp
 have h5:(if kU e.Opts then aD7 e.Opts else []).length≤300000:=by
  split
  ·
   rename_i hp;exact aCM h.2.2.2.2.2.2.2.2.2.2 hp
  ·
   simp
 omega
theorem aGW {e:bI} (h:dW e) (hb:PV.bulkRow (cD e)≤1048576):(rY e).length≤400000+20*PV.bulkRow (cD e):=by
 have h0:=aHG e
 have h1:=aBV h
 have h2:=rN (s:=e.Name) (by omega)
 have h3:=rN (s:=e.Key) (by omega)
 have h6:=aHl _ e.Data (Nat.le_refl _) h.2.2.2.2.2.2.2.2.2.1
 unfold rY
 simp only [List.length_append]
 have h4:(if wK true e.Data then pL e.Data else []).length≤20*PV.bulkRow (bF e.Data):=by split;exact h6;simp
 have h5:(if kU e.Opts then aD7 e.Opts else []).length≤300000:=by
  split
  ·
   rename_i hp;exact aCM h.2.2.2.2.2.2.2.2.2.2 hp
  ·
   simp
 omega
theorem xP {b:List UInt8}{e:bI} (h:dW e) (hs:aEu e) (hb:b.length≤50000000000):jG b e=some (b++rY e)∧qS b e=some (b++rY e):=by
 have hl:=aBV h
 have hok:=aGZ h
 obtain ⟨s1,s2,s3⟩:=hs
 have hv:cL e.Data:=h.2.2.2.2.2.2.2.2.2.1
 have hp:fH e.Opts:=h.2.2.2.2.2.2.2.2.2.2
 have h2:=rN (s:=e.Name) (by omega)
 have h3:=rN (s:=e.Key) (by omega)
 have h4:(if wK true e.Data then pL e.Data else []).length≤1000000000:=by split;exact s3;simp
 constructor
 ·
  have hloop:dR (kP e) (b,(0:Int))=some (b++(nO e).flatMap jI):=by
   refine tA 1000000000000 (nO e) jI b (by simp only [List.length_append];omega) (fun s i hi hs=>?_) (fun s=>?_)
   ·
    unfold kP
    simp only [List.length_append] at hs
    rw [cG,if_pos (by show (i:Int)<((nO e).length:Int);omega),show hG ([e.ID,e.Kind,e.Time,e.Seq,e.Ref,e.N,e.Code]:List Int) (i:Int)=some (nO e)[i] from eW hi,Option.bind_some,aB1 (by simp only;omega) (hok _ (List.getElem_mem hi)),Option.bind_some,iW hi (by simp [nO])]
   ·
    unfold kP
    rw [cG,if_neg (by simp [nO])]
  unfold jG
  rw [hloop,Option.bind_some,aL9 (by simp only [List.length_append];omega) (by omega),Option.bind_some,aL9 (by simp only [List.length_append];omega) (by omega),Option.bind_some,aEg hv (by simp only [List.length_append];omega),Option.bind_some,
   aD3 hp (by simp only [List.length_append];omega),Option.bind_some]
  unfold rY
  simp only [List.append_assoc]
 ·
  have hloop:dR (oJ e) (b,(0:Int))=some (b++(nO e).flatMap jI):=by
   refine tA 1000000000000 (nO e) jI b (by simp only [List.length_append];omega) (fun s i hi hs=>?_) (fun s=>?_)
   ·
    unfold oJ
    simp only [List.length_append] at hs
    rw [cG,if_pos (by show (i:Int)<((nO e).length:Int);omega),show hG ([e.ID,e.Kind,e.Time,e.Seq,e.Ref,e.N,e.Code]:List Int) (i:Int)=some (nO e)[i] from eW hi,Option.bind_some,aFL (by simp only;omega) (hok _ (List.getElem_mem hi)),Option.bind_some,iW hi (by simp [nO])]
   ·
    unfold oJ
    rw [cG,if_neg (by simp [nO])]
  unfold qS
  rw [mZ (by simp;omega),Option.bind_some,List.nil_append,hloop,Option.bind_some,aHe (by simp only [List.length_append];omega) (by omega),Option.bind_some,aHe (by simp only [List.length_append];omega) (by omega),Option.bind_some,aHV hv (by simp only [List.length_append];omega),Option.bind_some,
   aB6 hp (by simp only [List.length_append];omega),Option.bind_some]
  unfold rY
  simp only [List.append_assoc]
end Go.Proofs.YtnigjppddilpcaaGreatDoor
namespace Go.Proofs.YtnigjppddilpcaaGreatDoor
open Go Abs
set_option linter.unusedSimpArgs false
set_option linter.unusedVariables false
def aRv (t:List UInt8) (ks:List (List UInt8)):Int:=ks.foldl (fun a k=>IntKind.i64.wrap (a+IntKind.i64.wrap (Int.tdiv (k.length:Int) 8))) (IntKind.i64.wrap (IntKind.i64.wrap (1+IntKind.i64.wrap (Int.tdiv (t.length:Int) 8))+(ks.length:Int)))
mutual
def s23:aC→Int
 | ⟨_,_,t,l,ks⟩=>aNw l (aRv t ks)
def aNw:List aC→Int→Int
 | [],a=>a
 | x :: l,a=>aNw l (IntKind.i64.wrap (a+s23 x))
end
theorem aQo (v:aC):s23 v=v.Items.foldl (fun a x=>IntKind.i64.wrap (a+s23 x)) (aRv v.Text v.Keys):=by
 have key:∀ (l:List aC) (a:Int),aNw l a=l.foldl (fun a x=>IntKind.i64.wrap (a+s23 x)) a:=by
  intro l
  induction l with
  | nil=>intro a;simp [aNw]
  | cons x l ih=>intro a;simp [aNw,ih]
 cases v;simp only [s23,key]
theorem aO3:∀ (n:Nat) (v:aC),cL v→sW v≤n→pS n v=some (s23 v):=by
 intro n
 induction n with
 | zero=>intro v hv hn;have:=hP v;omega
 | succ n ih =>
  intro v hv hn
  have hh:=hP v
  obtain ⟨k0,k1,k2,k3,k4⟩:=(dH v).1 hv
  have hi1:=fun (i:Nat) (hi:i<v.Items.length)=>ih _ (k3.2.2 _ (List.getElem_mem hi)) (by have:=jB (List.getElem_mem hi);omega)
  rw [pS,aQo]
  rw [wL v.Keys (fun a k=>IntKind.i64.wrap (a+IntKind.i64.wrap (Int.tdiv (k.length:Int) 8))) _ (fun s i hi=>?_) (fun s=>?_),Option.bind_some]
  ·
   rw [wL v.Items (fun a x=>IntKind.i64.wrap (a+s23 x)) _ (fun s i hi=>?_) (fun s=>?_),Option.bind_some]
   ·
    rfl
   ·
    unfold uQ
    rw [cG,if_pos (by simp only;omega),eW hi,Option.bind_some,(hi1 i hi),Option.bind_some,iW hi k3.1]
   ·
    unfold uQ
    rw [cG,if_neg (by simp only;omega)]
  ·
   unfold uP
   rw [cG,if_pos (by simp only;omega),eW hi,Option.bind_some,iW hi k4.1]
  ·
   unfold uP
   rw [cG,if_neg (by simp only;omega)]
theorem aMj {v:aC} (hv:cL v):aBZ v=some (s23 v):=qY (sW v) fun n hn=>aO3 n v hv hn
theorem aRh {α:Type}{c:Bool}{o:Option α} (h:∃ x,o=some x) [Inhabited α]:∃ x,gd c o=some x:=by
 cases c
 ·
  exact ⟨_,rfl⟩
 ·
  exact h
theorem aC9 {l:List bI} (h:vF 272 dW l):∃ b,nL l=some b∧(b=false→∀ e∈l,e.Name.length≤500∧e.Key.length≤500):=by
 unfold nL
 by_cases h1:(40:Int)<(l.length:Int)
 ·
  rw [decide_eq_true h1];exact ⟨true,rfl,fun hh=>by cases hh⟩
 ·
  rw [decide_eq_false h1,cond_false]
  have key:∃ x,dR (sX l) (0:Int)=some x∧(x=.done true∨(x=.go ()∧∀ e∈l,e.Name.length≤500∧e.Key.length≤500)):=by
   refine rP (fun t=>∃ i:Nat,t=(i:Int)∧i≤l.length∧∀ (j:Nat) (hj:j<l.length),j<i→l[j].Name.length≤500∧l[j].Key.length≤500) (fun t=>l.length - t.toNat) _ ?_ _ ⟨0,rfl,by omega,by omega⟩
   rintro _ ⟨i,rfl,hi,hprev⟩
   unfold sX
   by_cases hc:i<l.length
   ·
    have he:=h.2.2 _ (List.getElem_mem hc)
    have hf:vF 16 okS l[i].Opts.Fatal:=he.2.2.2.2.2.2.2.2.2.2.2.2.2.2.2.2.2.2.2
    obtain ⟨z,hz⟩:=aRh (c:=((cond (decide ((500:Int)<(IntKind.wrap .i64 ((IntKind.wrap .i64 (((l[i].Name).length:Int)+((l[i].Key).length:Int)))+((l[i].Opts.Queue).length:Int))))) true (decide ((70:Int)<((l[i].Opts.Fatal).length:Int))))==false)) ⟨_,aMj he.2.2.2.2.2.2.2.2.2.1⟩
    rw [cG,if_pos (by omega),eW hc,Option.bind_some,hz,Option.bind_some]
    rcases Bool.eq_false_or_eq_true (cond (cond (decide ((500:Int)<(IntKind.wrap .i64 ((IntKind.wrap .i64 (((l[i].Name).length:Int)+((l[i].Key).length:Int)))+((l[i].Opts.Queue).length:Int))))) true (decide ((70:Int)<((l[i].Opts.Fatal).length:Int)))) true (decide ((200:Int)<z))) with hb | hb
    ·
     rw [hb,cond_true];exact .inr ⟨_,rfl,.inl rfl⟩
    ·
     have hle:l[i].Name.length≤500∧l[i].Key.length≤500:=by
      have o1:okS l[i].Name:=he.2.2.2.2.2.2.2.1
      have o2:okS l[i].Key:=he.2.2.2.2.2.2.2.2.1
      have o3:okS l[i].Opts.Queue:=he.2.2.2.2.2.2.2.2.2.2.1
      unfold okS at o1 o2 o3
      have w1:IntKind.wrap .i64 ((IntKind.wrap .i64 (((l[i].Name).length:Int)+((l[i].Key).length:Int)))+((l[i].Opts.Queue).length:Int))=((l[i].Name).length:Int)+((l[i].Key).length:Int)+((l[i].Opts.Queue).length:Int):=by
       rw [w64 (x:=((l[i].Name).length:Int)+((l[i].Key).length:Int)) (by omega) (by omega),w64 (by omega) (by omega)]
      rw [w1] at hb
      have:¬((500:Int)<((l[i].Name).length:Int)+((l[i].Key).length:Int)+((l[i].Opts.Queue).length:Int)):=fun hh=>by rw [decide_eq_true hh] at hb;simp at hb
      omega
     rw [hb,cond_false]
     have key2:∃ x,dR (sY l[i]) (0:Int)=some x∧(x=.done (.out (.done true))∨x=.go ()):=by
      refine rP (fun t=>∃ k:Nat,t=(k:Int)∧k≤l[i].Opts.Fatal.length) (fun t=>l[i].Opts.Fatal.length - t.toNat) _ ?_ _ ⟨0,rfl,by omega⟩
      rintro _ ⟨k,rfl,hk⟩
      unfold sY
      by_cases hc2:k<l[i].Opts.Fatal.length
      ·
       rw [cG,if_pos (by omega),eW hc2,Option.bind_some,cG]
       by_cases h3:(300:Int)<(l[i].Opts.Fatal[k].length:Int)
       ·
        rw [if_pos h3];exact .inr ⟨_,rfl,.inl rfl⟩
       ·
        rw [if_neg h3,iW hc2 hf.1]
        exact .inl ⟨_,rfl,⟨k+1,rfl,hc2⟩,by simp only [Int.toNat_natCast];omega⟩
      ·
       rw [cG,if_neg (by omega)];exact .inr ⟨_,rfl,.inr rfl⟩
     obtain ⟨x,hx,hx2⟩:=key2
     rw [hx,Option.bind_some]
     rcases hx2 with rfl | rfl
     ·
      exact .inr ⟨_,rfl,.inl rfl⟩
     ·
      simp only [Fl.next]
      rw [iW hc (by omega)]
      exact .inl ⟨_,rfl,⟨i+1,rfl,hc,fun j hj hji=>by rcases Nat.lt_succ_iff_lt_or_eq.1 hji with h1 | rfl;exact hprev j hj h1;exact hle⟩,by simp only [Int.toNat_natCast];omega⟩
   ·
    rw [cG,if_neg (by omega)];exact .inr ⟨_,rfl,.inr ⟨rfl,fun e he=>by obtain ⟨j,hj,rfl⟩:=List.mem_iff_getElem.1 he;exact hprev j hj (by omega)⟩⟩
  obtain ⟨x,hx,hx2⟩:=key
  rw [hx,Option.bind_some]
  rcases hx2 with rfl | ⟨rfl,hq⟩
  ·
   exact ⟨true,rfl,fun hh=>by cases hh⟩
  ·
   exact ⟨false,rfl,fun _=>hq⟩
theorem aMw {l:List bI} (h:vF 272 dW l):∃ b,nL l=some b:=by
 obtain ⟨b,hb,_⟩:=aC9 h
 exact ⟨b,hb⟩
theorem aFp {e:bI} (h:dW e):vF 272 dW [e]:=⟨by simp,by simp,fun x hx=>by rw [List.mem_singleton.1 hx];exact h⟩
theorem aE1 {a:List UInt8} (ha:a.length≤9223372036854775807):sJ a a=some true:=by
 unfold sJ
 rw [uO,if_pos rfl,iJ a.length (fun _=>true) false (fun i hi=>?_) ?_,Option.bind_some]
 ·
  simp [Fl.next]
 ·
  unfold sZ
  rw [cG,if_neg (by omega)]
 ·
  unfold sZ
  rw [cG,if_pos (by omega),eW hi,Option.bind_some,Option.bind_some,uO,if_pos rfl,iW hi ha]
  rfl
end Go.Proofs.YtnigjppddilpcaaGreatDoor
namespace Go.Proofs.YtnigjppddilpcaaGreatDoor
open Go Abs
set_option linter.unusedSimpArgs false
set_option linter.unusedVariables false
theorem aIk {b:List UInt8} (h:b.length≤140737488355328):uM b=some ⟨b,0,0,true⟩:=by
 unfold uM
 rw [xO h];rfl
theorem aHE {b:List UInt8}{a e:Int}{m:Bool}:iP ⟨b,a,e,m⟩=some (cond (!m) true (!decide (e=0))):=by
 unfold iP;rfl
theorem aOO {b:List UInt8}{a e:Int}:lE ⟨b,a,e,true⟩=some (if e=0 then IntKind.i64.wrap (b.length - a) else 0):=by
 unfold lE
 rw [aHE]
 by_cases h:e=0 <;> simp [h]
def aAv (b:List UInt8) (at_:Nat) (low high:Int):aT:=⟨b,(at_+(qZ (b.drop at_) low high).2.1:Nat),(qZ (b.drop at_) low high).2.2,true⟩
theorem aM4 {b:List UInt8}{at_:Nat}{low high:Int} (h1:at_≤b.length) (hb:b.length≤1000000000) :
  eQ low high ⟨b,at_,0,true⟩=some ((qZ (b.drop at_) low high).1,aAv b at_ low high):=by
 unfold eQ
 rw [aHE]
 simp only [Bool.not_true,cond_false,decide_true,Option.bind_some]
 rw [aLg (by simp;omega),Option.bind_some]
 unfold aAv
 generalize hrest:b.drop at_=rest
 have hrl:rest.length=b.length - at_:=by rw [← hrest];simp
 have hdrop:List.drop (Int.toNat (at_:Int)) b=rest:=by rw [Int.toNat_natCast];exact hrest
 obtain ⟨r,hr,hq⟩:∃ r,dR (oB ⟨b,at_,0,true⟩ low high) ((0:Int),(0:Int))=some r∧Fl.next r (fun _=>some ((0:Int),aT.mk b at_ 3 true))=some ((qZ rest low high).1,⟨b,(at_+(qZ rest low high).2.1:Nat),(qZ rest low high).2.2,true⟩):=by
  refine rP (fun (s:Int × Int)=>∃ k:Nat,s.2=(k:Int)∧((k≤9∧k≤rest.length∧∃ u:Nat,s.1=(u:Int)∧u<128 ^ k∧aAT 0 0 rest=aAT k u (rest.drop k))∨(k=10∧aAT 0 0 rest=.inl 3)))
   (fun s=>10 - s.2.toNat) _ ?_ ((0:Int),(0:Int)) ⟨0,rfl,.inl ⟨by simp,by simp,0,rfl,by simp,by simp⟩⟩
  rintro ⟨u0,k0⟩ ⟨k,hk0,hI⟩
  simp only at hk0 hI
  subst hk0
  unfold oB
  simp only [hdrop]
  rw [cG]
  obtain ⟨hk,hkl,u,rfl,hu,hs⟩ | ⟨rfl,hs⟩:=hI
  ·
   rw [if_pos (by omega),cG]
   by_cases h3:(rest.length:Int)≤k
   ·
    rw [if_pos h3]
    refine .inr ⟨_,rfl,?_⟩
    have hd:rest.drop k=[]:=List.drop_eq_nil_of_le (by omega)
    have hr:qZ rest low high=(0,0,4):=by simp only [qZ,hs,hd,aAT];rw [if_neg (by omega)]
    rw [hr];rfl
   ·
    rw [if_neg h3]
    have hlt:k<rest.length:=by omega
    rw [aHN,List.getElem?_eq_getElem hlt,Option.bind_some]
    generalize hc:rest[k]=c
    have hd:rest.drop k=c :: rest.drop (k+1):=by rw [← hc];exact List.drop_eq_getElem_cons hlt
    have hcl:=c.toNat_lt
    rw [hd] at hs
    simp only [aAT] at hs
    rw [if_neg (by omega)] at hs
    rw [aRk (by rw [show IntKind.i64.wrap (7*(k:Int))=7*(k:Int) by rw [IntKind.wrap_i64];omega];omega),Option.bind_some,aPW]
    generalize hv:fV .or .u64 (u:Int) _=v
    have hv':k≤8∨c.toNat≤1→v=((u+c.toNat % 128*128 ^ k:Nat):Int):=fun hx=>hv ▸ aOR c hk hu hx
    clear hv
    rw [cG]
    by_cases h4:(128:Int)≤(c.toNat:Int)
    ·
     rw [if_pos h4]
     rw [if_pos (by omega)] at hs
     refine .inl ⟨_,rfl,⟨k+1,by rw [w64 (by omega) (by omega)];rfl,?_⟩,by simp only [w64 (show (-9223372036854775808:Int)≤(k:Int)+1 by omega) (by omega)];omega⟩
     by_cases hk9:k=9
     ·
      refine .inr ⟨by omega,?_⟩
      rw [hs,hk9]
      cases rest.drop (9+1) <;> simp [aAT]
     ·
      have hve:=hv' (.inl (by omega))
      refine .inl ⟨by omega,by omega,_,hve,?_,hs⟩
      rw [Nat.pow_succ]
      have h3:c.toNat % 128*128 ^ k≤127*128 ^ k:=Nat.mul_le_mul_right _ (by omega)
      omega
    ·
     rw [if_neg h4]
     rw [if_neg (by omega)] at hs
     by_cases hX:(0<k∧c.toNat=0)∨(k=9∧1<c.toNat)
     ·
      rw [if_pos hX] at hs
      have hr:qZ rest low high=(0,0,3):=by simp only [qZ,hs]
      rw [hr]
      have e:(cond (cond (decide ((0:Int)<(k:Int))) (decide ((c.toNat:Int)=0)) false) true (cond (decide ((k:Int)=9)) (decide ((1:Int)<(c.toNat:Int))) false))=true:=by
       rcases hX with ⟨h5,h6⟩ | ⟨h5,h6⟩
       ·
        simp [h6];omega
       ·
        simp [h5];omega
      rw [e,cond_true]
      exact .inr ⟨_,rfl,rfl⟩
     ·
      rw [if_neg hX] at hs
      have e:(cond (cond (decide ((0:Int)<(k:Int))) (decide ((c.toNat:Int)=0)) false) true (cond (decide ((k:Int)=9)) (decide ((1:Int)<(c.toNat:Int))) false))=false:=by
       simp only [Bool.cond_eq_ite]
       by_cases h5:0<k <;> by_cases h6:c.toNat=0 <;> by_cases h7:k=9 <;> by_cases h8:1<c.toNat <;> simp <;> omega
      rw [e,cond_false]
      have hve:=hv' (by omega)
      have hmod:c.toNat % 128=c.toNat:=by omega
      rw [hmod] at hve
      clear hv'
      subst hve
      have hw:(u+c.toNat*128 ^ k)<18446744073709551616:=by
       have:k=0∨k=1∨k=2∨k=3∨k=4∨k=5∨k=6∨k=7∨k=8∨k=9:=by omega
       rcases this with rfl | rfl | rfl | rfl | rfl | rfl | rfl | rfl | rfl | rfl <;> omega
      generalize u+c.toNat*128 ^ k=w at hs hw
      have hr:qZ rest low high=if aCU w<low∨high<aCU w then (0,k+1,14) else (aCU w,k+1,0):=by simp only [qZ,hs]
      rw [hr,show (2:Int) ^ min (Int.toNat 1) IntKind.u64.bits=2 from sh1,aMq hw,aOt (by omega) hk]
      refine .inr ?_
      by_cases hlow:aCU w<low
      ·
       rw [if_pos (.inl hlow)]
       simp only [hlow,decide_true,cond_true]
       exact ⟨_,rfl,rfl⟩
      ·
       by_cases hhigh:high<aCU w
       ·
        rw [if_pos (.inr hhigh)]
        simp only [hlow,hhigh,decide_true,decide_false,cond_true,cond_false]
        exact ⟨_,rfl,rfl⟩
       ·
        rw [if_neg (by omega)]
        simp only [hlow,hhigh,decide_true,decide_false,cond_true,cond_false]
        exact ⟨_,rfl,rfl⟩
  ·
   rw [if_neg (by omega)]
   refine .inr ⟨_,rfl,?_⟩
   have hr:qZ rest low high=(0,0,3):=by simp only [qZ,hs]
   rw [hr];rfl
 rw [hr,Option.bind_some]
 exact hq
theorem aJc {k u:Nat} (h:u*128 ^ k<18446744073709551616) (hu:0<u):k≤9:=by
 refine Classical.byContradiction fun hk=>?_
 have h1:128 ^ 10≤128 ^ k:=Nat.pow_le_pow_right (by omega) (by omega)
 have h2:1*128 ^ k≤u*128 ^ k:=Nat.mul_le_mul_right _ hu
 have h3:(128:Nat) ^ 10=1180591620717411303424:=by decide
 omega
theorem aMh (rest:List UInt8):∀ (u k acc:Nat),(k=0∨0<u)→u*128 ^ k<18446744073709551616→aAT k acc (mR u++rest)=.inr (acc+u*128 ^ k,k+(mR u).length):=by
 intro u
 induction u using Nat.strongRecOn with
 | _ u ih =>
  intro k acc h0 hlt
  have hk:k≤9:=by
   rcases h0 with h | h
   ·
    omega
   ·
    exact aJc hlt h
  by_cases h:u<128
  ·
   rw [aCW h]
   have e:(UInt8.ofNat u).toNat=u:=by simp;omega
   simp only [List.cons_append,List.nil_append,aAT,e]
   rw [if_neg (by omega),if_neg (by omega),if_neg]
   ·
    rfl
   ·
    rintro (⟨h1,h2⟩ | ⟨h1,h2⟩)
    ·
     omega
    ·
     subst h1
     have:(128:Nat) ^ 9=9223372036854775808:=by decide
     rw [this] at hlt
     omega
  ·
   rw [aEI h]
   have e:(UInt8.ofNat (128+u % 128)).toNat=128+u % 128:=by simp;omega
   simp only [List.cons_append,aAT,e]
   rw [if_neg (by omega),if_pos (by omega)]
   have hs:128 ^ (k+1)=128 ^ k*128:=Nat.pow_succ ..
   have hm:u / 128*128 ^ (k+1)+u % 128*128 ^ k=u*128 ^ k:=by
    rw [hs,Nat.mul_comm (128 ^ k) 128,← Nat.mul_assoc,← Nat.add_mul,Nat.mul_comm (u / 128) 128,Nat.div_add_mod]
   rw [ih (u / 128) (by omega) (k+1) _ (.inr (by omega)) (by omega),show (128+u % 128) % 128=u % 128 by omega]
   simp only [List.length_cons,Sum.inr.injEq,Prod.mk.injEq]
   exact ⟨by omega,by omega⟩
theorem aHd {n low high:Int} (rest:List UInt8) (h1:-9223372036854775808≤n) (h2:n≤9223372036854775807) :
  qZ (mR (zz n)++rest) low high=if n<low∨high<n then (0,(mR (zz n)).length,14) else (n,(mR (zz n)).length,0):=by
 have h:=aD2 h1 h2
 unfold qZ
 rw [aMh rest (zz n) 0 0 (.inl rfl) (by simpa using h)]
 simp only [Nat.zero_add,Nat.pow_zero,Nat.mul_one,aPo]
theorem aHf:∀ (l:List UInt8) (k u w n:Nat),aAT k u l=.inr (w,n)→n≤k+l.length
 | [],k,u,w,n,h=>by simp only [aAT] at h;split at h <;> cases h
 | c :: r,k,u,w,n,h=>by
  simp only [aAT] at h
  split at h
  ·
   cases h
  ·
   split at h
   ·
    have:=aHf r _ _ _ _ h
    simp only [List.length_cons]
    omega
   ·
    split at h
    ·
     cases h
    ·
     cases h
     simp only [List.length_cons]
     omega
theorem aMa (l:List UInt8) (low high:Int):(qZ l low high).2.1≤l.length:=by
 unfold qZ
 split
 ·
  simp
 ·
  rename_i u k h
  have:=aHf l 0 0 u k h
  split <;> simp <;> omega
theorem aOT {l:List UInt8}{low high:Int} (h:(qZ l low high).2.2=0):low≤(qZ l low high).1∧(qZ l low high).1≤high:=by
 unfold qZ at h ⊢
 split
 ·
  rename_i e hs
  rw [hs] at h
  simp only at h
  exfalso
  have key:∀ (l:List UInt8) (k u e:Nat),aAT k u l=.inl e→e=3∨e=4:=by
   intro l
   induction l with
   | nil=>intro k u e h;simp only [aAT] at h;split at h <;> cases h <;> simp
   | cons c r ih =>
    intro k u e h
    simp only [aAT] at h
    split at h
    ·
     cases h;simp
    ·
     split at h
     ·
      exact ih _ _ _ h
     ·
      split at h <;> cases h
      simp
  rcases key _ _ _ _ hs with h2 | h2 <;> omega
 ·
  rename_i u k hs
  rw [hs] at h
  simp only at h
  by_cases hc:aCU u<low∨high<aCU u
  ·
   rw [if_pos hc] at h;simp at h
  ·
   rw [if_neg hc];simp only;omega
def aNr (b:List UInt8) (at_:Nat) (most:Int):List UInt8 × aT :=
 if (qZ (b.drop at_) 0 most).2.2≠0 then ([],aAv b at_ 0 most)
 else if (b.length:Int) - (at_+(qZ (b.drop at_) 0 most).2.1:Nat)<(qZ (b.drop at_) 0 most).1 then ([],⟨b,(at_+(qZ (b.drop at_) 0 most).2.1:Nat),4,true⟩)
 else ((b.drop (at_+(qZ (b.drop at_) 0 most).2.1)).take (qZ (b.drop at_) 0 most).1.toNat,⟨b,(at_+(qZ (b.drop at_) 0 most).2.1+(qZ (b.drop at_) 0 most).1.toNat:Nat),0,true⟩)
theorem aO7 {b:List UInt8}{at_:Nat}{most:Int} (h1:at_≤b.length) (hb:b.length≤1000000000):gI most ⟨b,at_,0,true⟩=some (aNr b at_ most):=by
 have hu:=aMa (b.drop at_) 0 most
 rw [List.length_drop] at hu
 unfold gI aNr
 rw [aM4 h1 hb,Option.bind_some]
 unfold aAv
 rw [aHE,Option.bind_some]
 by_cases he:(qZ (b.drop at_) 0 most).2.2=0
 ·
  have hin:=aOT he
  generalize hr:qZ (b.drop at_) 0 most=r at *
  obtain ⟨v,k,e⟩:=r
  simp only at he hin hu
  subst he
  simp only [Bool.not_true,cond_false,Int.natCast_zero,decide_true,cG,ne_eq,not_true_eq_false,if_false]
  rw [w64 (by omega) (by omega)]
  by_cases h3:(b.length:Int) - (at_+k:Nat)<v
  ·
   rw [if_pos h3,if_pos h3]
  ·
   rw [if_neg h3,if_neg h3,w64 (by omega) (by omega),aO5 (by omega),Option.bind_some]
   have e1:(((at_+k:Nat):Int)+v).toNat=at_+k+v.toNat:=by omega
   rw [e1,Int.toNat_natCast,List.drop_take,show at_+k+v.toNat - (at_+k)=v.toNat by omega]
   congr 3
   omega
 ·
  rw [if_pos he]
  have:decide (((qZ (b.drop at_) 0 most).2.2:Int)=0)=false:=by simp;omega
  simp only [this,Bool.not_true,Bool.not_false,cond_false,cond_true]
end Go.Proofs.YtnigjppddilpcaaGreatDoor
namespace Go.Proofs.YtnigjppddilpcaaGreatDoor
open Go Abs
set_option linter.unusedSimpArgs false
set_option linter.unusedVariables false
theorem aIF:∀ (a b:List UInt8),(!(Op.bytesLess a b||decide (a=b)))=Op.bytesLess b a
 | [],[]=>by simp [Op.bytesLess]
 | [],y :: b=>by simp [Op.bytesLess]
 | x :: a,[]=>by simp [Op.bytesLess]
 | x :: a,y :: b=>by
  simp only [Op.bytesLess,List.cons.injEq]
  have ih:=aIF a b
  by_cases h1:x<y
  ·
   have h2:¬y<x:=fun h=>absurd (UInt8.lt_trans h1 h) (UInt8.lt_irrefl _)
   have h3:¬y=x:=fun h=>by subst h;exact UInt8.lt_irrefl _ h1
   simp [h1,h2,h3]
  ·
   by_cases h2:y<x
   ·
    have h3:¬x=y:=fun h=>by subst h;exact UInt8.lt_irrefl _ h2
    simp [h1,h2,h3]
   ·
    have h3:x=y:=UInt8.le_antisymm (UInt8.not_lt.1 h2) (UInt8.not_lt.1 h1)
    subst h3
    simpa [h1] using ih
end Go.Proofs.YtnigjppddilpcaaGreatDoor

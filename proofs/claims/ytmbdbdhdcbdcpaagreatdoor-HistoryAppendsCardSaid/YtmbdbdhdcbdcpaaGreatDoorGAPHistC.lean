/- The reference's Check is the program's. -/
import Derived.Test.YtmbdbdhdcbdcpaaGreatDoorGAPHist2
import Derived.Test.YtmbdbdhdcbdcpaaGreatDoorGAPEv6
import Derived.Test.YtmbdbdhdcbdcpaaGreatDoorGAF8
import Derived.Test.YtmbdbdhdcbdcpaaGreatDoorGAF9
namespace Go.Proofs.YtmbdbdhdcbdcpaaGreatDoor
open Go Abs
set_option linter.unusedSimpArgs false
set_option linter.unusedVariables false
theorem refCloses_eq' (k:Int):ref22xCloses k=some (stK k).2:=(show ref22xCloses k=event_Closes k from rfl).trans (Closes_eq k)
def endsB (k:Int):Bool:=decide (k=4)||decide (k=5)||decide (k=6)
theorem ends_eq (k:Int):ref24xends k=some (endsB k):=by unfold ref24xends endsB;simp only [Bool.cond_true_left]
theorem refact_eq (k:Int):ref24xclosesActivity k=some (actB k):=by unfold ref24xclosesActivity actB;simp only [Bool.cond_true_left]
def mv (k:Int):Bool:=endsB k||decide (k=2)||decide (k=3)
def lastJ (l:List ApiEvent):Nat→Option Nat
 | 0=>none
 | j+1=>if ((l[j]?.map fun e=>mv e.Kind).getD false)=true then some j else lastJ l j
def lastI (o:Option Nat):Int:=match o with | some j=>(j:Int) | none=>-1
def lastF (o:Option Nat):Fl Int Unit:=match o with | some j=>.done (j:Int) | none=>.go ()
theorem last_loop {l:List ApiEvent} (hn:l.length≤9223372036854775807):∀ i:Nat,i≤l.length→loopO (ref24xlast_l1 l) ((i:Int) - 1)=some (lastF (lastJ l i))
 | 0,_=>by
  have h1:ref24xlast_l1 l (((0:Nat):Int) - 1)=some (.out (.go ())):=by
   unfold ref24xlast_l1
   rw [cond_d,if_neg (by omega)]
  rw [loopO_eq,h1];rfl
 | i+1,hi=>by
  have hi':i<l.length:=by omega
  have e1:((i+1:Nat):Int) - 1=(i:Int):=by omega
  have hw:IntKind.i64.wrap ((i:Int) - 1)=(i:Int) - 1:=w64 (by omega) (by omega)
  have h1:ref24xlast_l1 l (i:Int)=some (if mv l[i].Kind then .out (.done (i:Int)) else .next ((i:Int) - 1)):=by
   unfold ref24xlast_l1
   rw [cond_d,if_pos (by omega),idx_ok hi',Option.bind_some,ends_eq,Option.bind_some,hw]
   unfold mv
   cases endsB l[i].Kind
   ·
    simp only [beq_self_eq_true,gd,if_true,Option.bind_some,cond_false,Bool.false_or]
    by_cases h2:l[i].Kind=2
    ·
     simp [h2]
    ·
     by_cases h3:l[i].Kind=3
     ·
      simp [h2,h3]
     ·
      simp [h2,h3]
   ·
    rfl
  rw [e1,loopO_eq,h1]
  unfold lastJ
  rw [List.getElem?_eq_getElem hi',Option.map_some,Option.getD_some]
  cases mv l[i].Kind
  ·
   simp only [Bool.false_eq_true,if_false,Option.bind_some]
   exact last_loop hn i (by omega)
  ·
   rfl
theorem last_eq {l:List ApiEvent} (hn:l.length≤9223372036854775807) {i:Nat} (hi:i≤l.length):ref24xlast l (i:Int)=some (lastI (lastJ l i)):=by
 unfold ref24xlast
 rw [show IntKind.i64.wrap ((i:Int) - 1)=(i:Int) - 1 from w64 (by omega) (by omega),last_loop hn i hi]
 cases lastJ l i <;> rfl
def taskI (l:List ApiEvent) (i:Nat) (k:HistoryChecker):Prop :=
 (lastJ l i=none∧k.task_=0)∨∃ (j:Nat) (e:ApiEvent),lastJ l i=some j∧j<i∧l[j]?=some e∧((endsB e.Kind=true∧k.task_=0)∨(e.Kind=2∧k.task_=1∧k.ref_=e.ID)∨(e.Kind=3∧k.task_=2∧k.ref_=e.ID∧(j+1=i∨k.closed_=true)))
def lastW (l:List ApiEvent) (i:Nat) (k:HistoryChecker):Prop:=(i=0∧k.closed_=false∧k.task_=0)∨(0<i∧l[i - 1]?=some k.before_∧k.closed_=(stK k.before_.Kind).2)
theorem taskI_next {l:List ApiEvent}{i:Nat} (hi:i<l.length) {k:HistoryChecker} (h:taskI l i k) (ha:(allowsP i l[i] k).1=true):taskI l (i+1) (nextK i l[i] k):=by
 have hl:lastJ l (i+1)=if mv l[i].Kind=true then some i else lastJ l i:=by
  rw [lastJ,List.getElem?_eq_getElem hi,Option.map_some,Option.getD_some]
 have hg:l[i]?=some l[i]:=List.getElem?_eq_getElem hi
 unfold allowsP at ha
 cases hb1:bar1 i l[i] k
 ·
  cases hb2:bar2 i l[i] k
  ·
   have e2:(allowsP i l[i] k).2=(stepP l[i] k).2.2:=by
    unfold allowsP
    simp only [hb1,hb2,Bool.false_eq_true,if_false]
    repeat' split
    all_goals rfl
   simp only [hb1,hb2,Bool.false_eq_true,if_false] at ha
   unfold taskI nextK
   rw [hl,e2]
   unfold stepP at ha ⊢
   by_cases h2:l[i].Kind=2
   ·
    have:mv l[i].Kind=true:=by rw [h2];rfl
    rw [if_pos h2]
    exact .inr ⟨i,l[i],by rw [this];rfl,by omega,hg,.inr (.inl ⟨h2,rfl,rfl⟩)⟩
   ·
    by_cases h3:l[i].Kind=3
    ·
     have:mv l[i].Kind=true:=by rw [h3];rfl
     rw [if_neg h2,if_pos h3]
     exact .inr ⟨i,l[i],by rw [this];rfl,by omega,hg,.inr (.inr ⟨h3,rfl,rfl,.inl rfl⟩)⟩
    ·
     by_cases h4:l[i].Kind=4∨l[i].Kind=5∨l[i].Kind=6
     ·
      have he:endsB l[i].Kind=true:=by unfold endsB;rcases h4 with h | h | h <;> rw [h] <;> rfl
      have:mv l[i].Kind=true:=by unfold mv;rw [he];rfl
      rw [if_neg h2,if_neg h3,if_pos h4]
      exact .inr ⟨i,l[i],by rw [this];rfl,by omega,hg,.inl ⟨he,rfl⟩⟩
     ·
      have he:endsB l[i].Kind=false:=by unfold endsB;simp only [Bool.or_eq_false_iff,decide_eq_false_iff_not];omega
      have:mv l[i].Kind=false:=by unfold mv;rw [he];simp [h2,h3]
      rw [this]
      simp only [if_neg h2,if_neg h3,if_neg h4,Bool.false_eq_true,if_false] at ha ⊢
      rcases h with ⟨h1,h2'⟩ | ⟨j,e,h1,hj,h2',h3'⟩
      ·
       exact .inl ⟨h1,h2'⟩
      ·
       refine .inr ⟨j,e,h1,by omega,h2',?_⟩
       rcases h3' with h3' | h3' | ⟨a1,a2,a3,a4⟩
       ·
        exact .inl h3'
       ·
        exact .inr (.inl h3')
       ·
        refine .inr (.inr ⟨a1,a2,a3,.inr ?_⟩)
        cases hb3:bar3 l[i] k
        ·
         unfold bar3 at hb3
         rw [a2] at hb3
         simp only [decide_true,Bool.true_and,Bool.and_eq_false_iff,Bool.not_eq_false',decide_eq_true_eq] at hb3
         rcases hb3 with hb3 | hb3 <;> rw [hb3] <;> rfl
        ·
         rw [hb3] at ha
         simp at ha
  ·
   rw [hb1,hb2] at ha
   simp at ha
 ·
  rw [hb1] at ha
  simp at ha
theorem lastW_next {l:List ApiEvent}{i:Nat} (hi:i<l.length) {k:HistoryChecker}:lastW l (i+1) (nextK i l[i] k) :=
 .inr ⟨by omega,List.getElem?_eq_getElem hi,rfl⟩
theorem gdF {a:Bool}{b:Bool}:((gd (a==false) (some b)).bind fun (z:Bool)=>some (cond a true z))=some (a||b):=by cases a <;> rfl
theorem allowed_eq {l:List ApiEvent} (hn:l.length≤2000) {i:Nat} (hi:i<l.length) {k:HistoryChecker} (h:taskI l i k) (hw:lastW l i k):ref24xallowed l (i:Int)=some (allowsP i l[i] k).1:=by
 unfold ref24xallowed
 rw [idx_ok hi,Option.bind_some]
 generalize l[i]=e
 rcases hw with ⟨rfl,h1,h2⟩ | ⟨h0,h1,h2⟩
 ·
  rw [decide_eq_true (show (((0:Nat):Int)=0) from rfl),cond_true]
  unfold allowsP bar1 bar2 bar3 stepP isCmd
  rw [h1,h2]
  by_cases hk:e.Kind=1
  ·
   simp [hk,cmdOf]
  ·
   simp [hk]
 ·
  have hi1:i - 1<l.length:=by omega
  have hm:IntKind.i64.wrap ((i:Int) - 1)=((i - 1:Nat):Int):=by rw [w64 (by omega) (by omega)];omega
  have hx:l[i - 1]=k.before_:=by
   have:=List.getElem?_eq_getElem hi1
   rw [h1] at this
   exact (Option.some.inj this).symm
  have n0:¬(i:Int)=0:=by omega
  have n0':¬i=0:=by omega
  have e1:decide ((i:Int)=1)=decide (i=1):=by rw [decide_eq_decide];omega
  rw [decide_eq_false n0,cond_false,hm,idx_ok hi1,Option.bind_some,hx,refCloses_eq',Option.bind_some,refact_eq,ends_eq,last_eq (by omega) (by omega),refIsCommand_eq,refIsCommand_eq,e1]
  simp only [Option.bind_some]
  by_cases hk1:e.Kind=1
  ·
   have:(allowsP i e k).1=false:=by unfold allowsP bar1;simp [hk1,n0']
   rw [this];simp [hk1]
  ·
   by_cases hk2:i=1∧¬e.Kind=2
   ·
    have:(allowsP i e k).1=false:=by unfold allowsP bar1;simp [hk1,n0',hk2]
    rw [this];simp [hk1,hk2]
   ·
    have hg:(cond (decide (e.Kind=1)) true (cond (decide (i=1)) (!decide (e.Kind=2)) false))=false:=by
     simp only [hk1,decide_false,cond_false]
     by_cases hi1:i=1
     ·
      simp only [hi1,decide_true,cond_true,Bool.not_eq_false',decide_eq_true_eq]
      exact Classical.not_not.1 fun hx=>hk2 ⟨hi1,hx⟩
     ·
      simp [hi1]
    rw [hg,cond_false]
    cases hcl:(stK k.before_.Kind).2
    ·
     rw [hcl] at h2
     have hb1:bar1 i e k=false:=by
      unfold bar1
      rw [h2,decide_eq_false n0',decide_eq_false hk1]
      simp only [hk1,decide_false,cond_false,Bool.cond_false_right] at hg
      simpa using hg
     have hT2:k.task_=2→k.before_.Kind=3:=by
      intro ht
      rcases h with ⟨_,h⟩ | ⟨j,e',_,_,hj,⟨_,h⟩ | ⟨_,h,_⟩ | ⟨h,_,_,hx⟩⟩
      ·
       omega
      ·
       omega
      ·
       omega
      ·
       rcases hx with hx | hx
       ·
        rw [show j=i - 1 by omega,h1] at hj
        rw [Option.some.inj hj];exact h
       ·
        rw [h2] at hx;exact absurd hx (by simp)
     have hT3:k.before_.Kind=3→k.task_=2∧k.ref_=k.before_.ID:=by
      intro h3
      have hl:lastJ l i=some (i - 1):=by
       rw [show i=i - 1+1 by omega,lastJ,h1,Option.map_some,Option.getD_some,h3];rfl
      rcases h with ⟨h,_⟩ | ⟨j,e',hj',_,hj,h⟩
      ·
       rw [hl] at h;exact absurd h (by simp)
      ·
       rw [hl] at hj'
       rw [← Option.some.inj hj',h1] at hj
       rw [← Option.some.inj hj] at h
       rcases h with ⟨h,_⟩ | ⟨h,_⟩ | ⟨_,ha,hb,_⟩
       ·
        rw [h3] at h;exact absurd h (by decide)
       ·
        omega
       ·
        exact ⟨ha,hb⟩
     rw [cond_false]
     unfold allowsP
     rw [hb1]
     simp only [Bool.false_eq_true,if_false]
     by_cases h8:k.before_.Kind=8
     ·
      have hn2:¬k.task_=2:=fun hx=>by have:=hT2 hx;omega
      have hb3:bar3 e k=false:=by unfold bar3;simp [hn2]
      rw [decide_eq_true h8,cond_true,hb3]
      have hb2:bar2 i e k=!(actB e.Kind&&decide (e.Seq=k.before_.Seq)):=by
       unfold bar2
       rw [h8,decide_eq_true h0]
       cases actB e.Kind <;> simp
      rw [hb2,Bool.cond_false_right]
      by_cases ha:(actB e.Kind&&decide (e.Seq=k.before_.Seq))=true
      ·
       rw [ha]
       have hA:actB e.Kind=true:=by
        rw [Bool.and_eq_true] at ha;exact ha.1
       have hA:e.Kind=9∨e.Kind=10∨e.Kind=11∨e.Kind=13:=by
        unfold actB at hA;simpa [or_assoc] using hA
       unfold stepP isCmd
       rcases hA with hA | hA | hA | hA <;> rw [hA] <;> simp [cmdOf]
      ·
       rw [Bool.not_eq_true] at ha
       rw [ha];simp
     ·
      rw [decide_eq_false h8,cond_false]
      have hb2:bar2 i e k=false:=by unfold bar2;simp [h8]
      rw [hb2]
      simp only [Bool.false_eq_true,if_false]
      by_cases h3:k.before_.Kind=3
      ·
       obtain ⟨t1,t2⟩:=hT3 h3
       rw [decide_eq_true h3,cond_true]
       unfold stepP bar3 endsB isCmd
       rw [t1,t2]
       by_cases a2:e.Kind=2
       ·
        simp [a2]
       ·
        by_cases a3:e.Kind=3
        ·
         simp [a3]
        ·
         by_cases a4:e.Kind=4∨e.Kind=5∨e.Kind=6
         ·
          rcases a4 with a4 | a4 | a4 <;> simp [a4]
         ·
          by_cases a33:e.Kind=33
          ·
           simp [a33,cmdOf]
          ·
           by_cases a34:e.Kind=34
           ·
            simp [a34,cmdOf]
           ·
            have b4:¬e.Kind=4:=fun hx=>a4 (.inl hx)
            have b5:¬e.Kind=5:=fun hx=>a4 (.inr (.inl hx))
            have b6:¬e.Kind=6:=fun hx=>a4 (.inr (.inr hx))
            simp [a2,a3,b4,b5,b6,a33,a34]
      ·
       rw [decide_eq_false h3,cond_false]
       have hn2:¬k.task_=2:=fun hx=>h3 (hT2 hx)
       have hb3:bar3 e k=false:=by unfold bar3;simp [hn2]
       rw [hb3]
       rw [gdF]
       have hfin:∀ (b2 b3:Bool),(k.task_=0↔b2=true)→((k.task_=1∧e.Ref=k.ref_)↔b3=true) →
         cond (decide (e.Kind=2)) (some b2) (cond (decide (e.Kind=3)) (some b3) (cond (!decide (cmdOf e.Kind=0)) (some (decide (k.before_.Kind=4)||!decide (cmdOf k.before_.Kind=0))) (some (!endsB e.Kind)))) =
         some (if (stepP e k).2.1=true then ((stepP e k).1,(stepP e k).2.2) else if isCmd e.Kind=true then (decide (k.before_.Kind=4)||isCmd k.before_.Kind,(stepP e k).2.2) else (true,(stepP e k).2.2)).1:=by
        intro b2 b3 e2 e3
        unfold stepP
        by_cases a2:e.Kind=2
        ·
         simp only [a2,decide_true,cond_true,if_true]
         congr 1
         rw [Bool.eq_iff_iff,decide_eq_true_eq];exact e2.symm
        ·
         by_cases a3:e.Kind=3
         ·
          rw [decide_eq_false a2,cond_false,decide_eq_true a3,cond_true,if_neg a2,if_pos a3]
          simp only [if_true]
          congr 1
          rw [Bool.eq_iff_iff,Bool.and_eq_true,decide_eq_true_eq,decide_eq_true_eq];exact e3.symm
         ·
          rw [decide_eq_false a2,decide_eq_false a3,cond_false,cond_false,if_neg a2,if_neg a3]
          by_cases a4:e.Kind=4∨e.Kind=5∨e.Kind=6
          ·
           rw [if_pos a4]
           have:endsB e.Kind=true:=by unfold endsB;rcases a4 with h | h | h <;> rw [h] <;> rfl
           have hc0:cmdOf e.Kind=0:=by rcases a4 with h | h | h <;> rw [h] <;> rfl
           rw [this,hc0]
           simp [hn2]
          ·
           rw [if_neg a4]
           have:endsB e.Kind=false:=by unfold endsB;simp only [Bool.or_eq_false_iff,decide_eq_false_iff_not];omega
           rw [this]
           unfold isCmd
           by_cases hc0:cmdOf e.Kind=0
           ·
            simp [hc0]
           ·
            simp [hc0]
       rcases h with ⟨hl,ht⟩ | ⟨j,e',hl,hj',hj,hx⟩
       ·
        rw [hl,lastI]
        refine Eq.trans ?_ (hfin true false ⟨fun _=>rfl,fun _=>ht⟩ ⟨fun hx=>absurd hx.1 (by omega),fun hx=>absurd hx (by simp)⟩)
        simp [gd]
       ·
        have hp:(0:Int)≤(j:Int):=by omega
        have hq:¬(j:Int)<0:=by omega
        rw [hl,lastI,idx_nat,hj]
        refine Eq.trans ?_ (hfin (endsB e'.Kind) (decide (e'.Kind=2)&&decide (e.Ref=e'.ID)) ?_ ?_)
        ·
         simp only [hp,hq,decide_true,decide_false,beq_self_eq_true,gd,if_true,Option.bind_some,cond_true,cond_false]
         cases decide (e'.Kind=2) <;> simp [ends_eq]
        ·
         rcases hx with ⟨q1,q2⟩ | ⟨q1,q2,_⟩ | ⟨_,q2,_⟩
         ·
          exact ⟨fun _=>q1,fun _=>q2⟩
         ·
          rw [q1];exact ⟨fun hx=>absurd hx (by omega),fun hx=>absurd hx (by decide)⟩
         ·
          exact absurd q2 hn2
        ·
         rw [Bool.and_eq_true,decide_eq_true_eq,decide_eq_true_eq]
         rcases hx with ⟨q1,q2⟩ | ⟨q1,q2,q3⟩ | ⟨_,q2,_⟩
         ·
          refine ⟨fun hx=>absurd hx.1 (by omega),fun hx=>?_⟩
          rw [hx.1] at q1;exact absurd q1 (by decide)
         ·
          rw [q3];exact ⟨fun hx=>⟨q1,hx.2⟩,fun hx=>⟨q2,hx.2⟩⟩
         ·
          exact absurd q2 hn2
    ·
     have:(allowsP i e k).1=false:=by unfold allowsP bar1;rw [h2,hcl];rfl
     rw [this];rfl
theorem refCheck_l1 {l:List ApiEvent} (hl:okLs 272 okApiEvent l) (hn:l.length≤2000) {i:Nat} (hi:i<l.length) {k:HistoryChecker} (h:taskI l i k) (hw:lastW l i k) :
  ref24xCheck_l1 l (i:Int)=some (if errE i l[i] k=0 then .next ((i+1:Nat):Int) else .out (.done (errE i l[i] k))):=by
 have he:okApiEvent l[i]:=hl.2.2 _ (List.getElem_mem hi)
 unfold ref24xCheck_l1
 rw [cond_d,if_pos (by omega),idx_ok hi,Option.bind_some,ref22Right_eq he,← eright_eq,Option.bind_some,w64s hi (by omega),allowed_eq hn hi h hw]
 unfold errE
 cases eright l[i]
 ·
  rfl
 ·
  have e1:decide (l[i].ID=((i+1:Nat):Int))=decide (l[i].ID=(i:Int)+1):=by rw [decide_eq_decide];omega
  simp only [Bool.not_true,cond_false,Option.bind_some,e1]
  have ho:((gd ((!decide (l[i].ID=(i:Int)+1))==false&&decide ((0:Int)<(i:Int))==true) (some l[i])).bind fun (x18:ApiEvent)=>(gd ((!decide (l[i].ID=(i:Int)+1))==false&&decide ((0:Int)<(i:Int))==true) (idx l (IntKind.i64.wrap ((i:Int) - 1)))).bind fun (x20:ApiEvent)=>some (cond (!decide (l[i].ID=(i:Int)+1)) true (cond (decide ((0:Int)<(i:Int))) (decide (x18.Time<x20.Time)) false)))=some (outB i l[i] k):=by
   unfold outB
   by_cases hID:l[i].ID=(i:Int)+1
   ·
    rcases hw with ⟨rfl,_,_⟩ | ⟨h0,h1,_⟩
    ·
     simp [hID,gd]
    ·
     have hm:IntKind.i64.wrap ((i:Int) - 1)=((i - 1:Nat):Int):=by rw [w64 (by omega) (by omega)];omega
     have hp:(0:Int)<(i:Int):=by omega
     rw [hm,idx_nat,h1]
     simp [hID,gd,hp,h0]
   ·
    simp [hID,gd]
  have hbind:∀ {β:Type} (f:Bool→Option β),((gd ((!decide (l[i].ID=(i:Int)+1))==false&&decide ((0:Int)<(i:Int))==true) (some l[i])).bind fun (x18:ApiEvent)=>(gd ((!decide (l[i].ID=(i:Int)+1))==false&&decide ((0:Int)<(i:Int))==true) (idx l (IntKind.i64.wrap ((i:Int) - 1)))).bind fun (x20:ApiEvent)=>f (cond (!decide (l[i].ID=(i:Int)+1)) true (cond (decide ((0:Int)<(i:Int))) (decide (x18.Time<x20.Time)) false)))=f (outB i l[i] k):=by
   intro β f
   have:=congrArg (fun o=>Option.bind o f) ho
   simp only [Option.bind_assoc,Option.bind_some] at this
   exact this
  rw [hbind (fun b=>cond b (some (Step.out (Fl.done 30))) (cond (!(allowsP i l[i] k).1) (some (Step.out (Fl.done 16))) (some (Step.next ((i+1:Nat):Int)))))]
  cases outB i l[i] k
  ·
   cases (allowsP i l[i] k).1 <;> rfl
  ·
   rfl
theorem errE_allows {i:Nat}{e:ApiEvent}{k:HistoryChecker} (h:errE i e k=0):(allowsP i e k).1=true:=by
 cases ha:(allowsP i e k).1
 ·
  exfalso
  unfold errE at h
  rw [ha] at h
  revert h
  split
  ·
   simp
  ·
   split
   ·
    simp
   ·
    simp
 ·
  rfl
theorem refCheck_loop {l:List ApiEvent} (hl:okLs 272 okApiEvent l) (hn:l.length≤2000):∀ (suf pre:List ApiEvent) (k:HistoryChecker),l=pre++suf→taskI l pre.length k→lastW l pre.length k→loopO (ref24xCheck_l1 l) (pre.length:Int)=some (if chk pre.length suf k=0 then .go () else .done (chk pre.length suf k)):=by
 intro suf
 induction suf with
 | nil =>
  intro pre k e _ _
  rw [List.append_nil] at e
  have h1:ref24xCheck_l1 l (pre.length:Int)=some (.out (.go ())):=by
   unfold ref24xCheck_l1
   rw [cond_d,if_neg (by rw [← e];omega)]
  rw [loopO_eq,h1,Option.bind_some]
  unfold chk
  rfl
 | cons x suf ih =>
  intro pre k e ht hw
  have hi:pre.length<l.length:=by rw [e];simp
  have hx:l[pre.length]=x:=by simp [e]
  rw [loopO_eq,refCheck_l1 hl hn hi ht hw,hx]
  unfold chk
  by_cases h0:errE pre.length x k=0
  ·
   have ha:(allowsP pre.length l[pre.length] k).1=true:=by rw [hx];exact errE_allows h0
   have hk:=ih (pre++[x]) (nextK pre.length x k) (by simp [e])
   rw [List.length_append,List.length_singleton] at hk
   have t2:=taskI_next hi ht ha
   have w2:lastW l (pre.length+1) (nextK pre.length l[pre.length] k):=lastW_next hi
   rw [hx] at t2 w2
   simp only [h0,if_true,Option.bind_some]
   exact hk t2 w2
  ·
   simp only [h0,if_false,Option.bind_some]
theorem refCheck_eq {l:List ApiEvent} (hl:okLs 272 okApiEvent l):ref24xCheck l=history_Check l:=by
 rw [Check_eq hl]
 unfold ref24xCheck
 rw [cond_d]
 by_cases h:2000<l.length
 ·
  rw [if_pos (by omega),if_pos h]
 ·
  rw [if_neg (by omega),if_neg h]
  have hk:=refCheck_loop hl (by omega) l [] zeroK rfl (.inl ⟨rfl,rfl⟩) (.inl ⟨rfl,rfl,rfl⟩)
  have hk:loopO (ref24xCheck_l1 l) (0:Int)=some (if chk 0 l zeroK=0 then .go () else .done (chk 0 l zeroK)):=hk
  rw [hk,Option.bind_some]
  by_cases h0:chk 0 l zeroK=0
  ·
   rw [if_pos h0,Fl.next,h0]
  ·
   rw [if_neg h0];rfl
end Go.Proofs.YtmbdbdhdcbdcpaaGreatDoor

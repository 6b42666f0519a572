/- Loops of a few common shapes, plainly. -/
import Derived.Test.YtmbdbdhdcbdcpaaGreatDoorPk2
namespace Go.Proofs.YtmbdbdhdcbdcpaaGreatDoor
open Go Abs
set_option linter.unusedSimpArgs false
set_option linter.unusedVariables false
theorem loop_fm {α β:Type} (f:α→Option β) (l:List α) {body:(List β × Int)→Option (Step (List β × Int) (List β))}
  (h:∀ (acc:List β) (i:Nat) (hi:i<l.length),acc.length≤i→body (acc,(i:Int))=some (.next (acc++(f l[i]).toList,((i+1:Nat):Int))))
  (hout:∀ acc,body (acc,(l.length:Int))=some (.out acc)):loopO body ([],(0:Int))=some (l.filterMap f):=by
 refine loop_to (fun s=>∃ i:Nat,s.2=(i:Int)∧i≤l.length∧s.1=(l.take i).filterMap f) (fun s=>l.length - s.2.toNat) (fun _=>l.filterMap f) ?_ _ ⟨0,rfl,by omega,by simp⟩
 rintro ⟨acc,i0⟩ ⟨i,hi0,hi,hacc⟩
 simp only at hi0 hacc
 subst hi0
 by_cases hlt:i<l.length
 ·
  have hl:acc.length≤i:=by rw [hacc];exact Nat.le_trans (List.length_filterMap_le ..) (by simp;omega)
  refine .inl ⟨_,h acc i hlt hl,⟨i+1,rfl,hlt,?_⟩,by simp;omega,rfl⟩
  rw [hacc,List.take_succ_eq_append_getElem hlt,List.filterMap_append]
  cases hf:f l[i] <;> simp [hf]
 ·
  obtain rfl:i=l.length:=by omega
  rw [hout,hacc,List.take_length]
  exact .inr rfl
theorem loop_look {ρ:Type} (n:Nat) (r:ρ) {body:Int→Option (Step Int ρ)} (h:∀ i:Nat,i<n→body (i:Int)=some (.next ((i+1:Nat):Int))) (hout:body (n:Int)=some (.out r)):loopO body (0:Int)=some r:=by
 refine loop_to (fun s=>∃ i:Nat,s=(i:Int)∧i≤n) (fun s=>n - s.toNat) (fun _=>r) ?_ _ ⟨0,rfl,by omega⟩
 rintro s ⟨i,rfl,hi⟩
 by_cases hlt:i<n
 ·
  exact .inl ⟨_,h i hlt,⟨i+1,rfl,hlt⟩,by simp;omega,rfl⟩
 ·
  obtain rfl:i=n:=by omega
  exact .inr hout
theorem w64s {i n:Nat} (h:i<n) (hn:n≤9223372036854775807):IntKind.i64.wrap ((i:Int)+1)=((i+1:Nat):Int):=by rw [w64 (by omega) (by omega)];omega
theorem idx_ok {α:Type}{l:List α}{i:Nat} (h:i<l.length):idx l (i:Int)=some l[i]:=by rw [idx_nat,List.getElem?_eq_getElem h]
theorem loop_all {τ:Type} (n:Nat) (p:Nat→Bool) (b:τ) {body:Int→Option (Step Int (Fl τ Unit))} (h:∀ i:Nat,i<n→body (i:Int)=some (if p i then .next ((i+1:Nat):Int) else .out (.done b)))
  (hout:body (n:Int)=some (.out (.go ()))):loopO body (0:Int)=some (if (List.range n).all p then .go () else .done b):=by
 refine loop_to (fun s=>∃ i:Nat,s=(i:Int)∧i≤n∧∀ j,j<i→p j=true) (fun s=>n - s.toNat) (fun _=>(if (List.range n).all p then Fl.go () else Fl.done b:Fl τ Unit)) ?_ _ ⟨0,rfl,by omega,by omega⟩
 rintro s ⟨i,rfl,hi,hp⟩
 by_cases hlt:i<n
 ·
  rw [h i hlt]
  by_cases hpi:p i=true
  ·
   rw [if_pos hpi]
   exact .inl ⟨_,rfl,⟨i+1,rfl,hlt,fun j hj=>by rcases Nat.lt_succ_iff_lt_or_eq.1 hj with h1 | rfl;exact hp j h1;exact hpi⟩,by simp;omega,rfl⟩
  ·
   rw [if_neg hpi,if_neg (fun ha=>hpi (List.all_eq_true.1 ha i (List.mem_range.2 hlt)))]
   exact .inr rfl
 ·
  obtain rfl:i=n:=by omega
  rw [hout,if_pos (List.all_eq_true.2 fun j hj=>hp j (List.mem_range.1 hj))]
  exact .inr rfl
theorem all_range {α:Type} [Inhabited α] (l:List α) (p:α→Bool):((List.range l.length).all fun i=>p (l.getD i default))=l.all p:=by
 rw [Bool.eq_iff_iff,List.all_eq_true,List.all_eq_true]
 constructor
 ·
  intro h x hx
  obtain ⟨i,hi,rfl⟩:=List.mem_iff_getElem.1 hx
  have:=h i (List.mem_range.2 hi)
  simpa [hi] using this
 ·
  intro h i hi
  have hi:=List.mem_range.1 hi
  simpa [hi] using h _ (List.getElem_mem hi)
theorem loop_find {α:Type} (l:List α) (p:α→Bool) {body:Int→Option (Step Int (Fl Int Unit))} (h:∀ (i:Nat) (hi:i<l.length),body (i:Int)=some (if p l[i] then .out (.done (i:Int)) else .next ((i+1:Nat):Int)))
  (hout:body (l.length:Int)=some (.out (.go ()))):∃ x:Int,((loopO body (0:Int)).bind fun r=>Fl.next r fun _=>some (-1:Int))=some x∧decide ((0:Int)≤x)=l.any p:=by
 obtain ⟨r,h1,x,h2,h3⟩:∃ r,loopO body (0:Int)=some r∧∃ x:Int,(Fl.next r fun _=>some (-1:Int))=some x∧decide ((0:Int)≤x)=l.any p:=by
  refine loop_ex (fun s=>∃ i:Nat,s=(i:Int)∧i≤l.length∧∀ j (hj:j<l.length),j<i→p l[j]=false) (fun s=>l.length - s.toNat) _ ?_ _ ⟨0,rfl,by omega,by omega⟩
  rintro s ⟨i,rfl,hi,hp⟩
  by_cases hlt:i<l.length
  ·
   rw [h i hlt]
   by_cases hpi:p l[i]=true
   ·
    rw [if_pos hpi]
    refine .inr ⟨_,rfl,i,rfl,?_⟩
    have:l.any p=true:=List.any_eq_true.2 ⟨_,List.getElem_mem hlt,hpi⟩
    rw [this];simp
   ·
    rw [if_neg hpi]
    exact .inl ⟨_,rfl,⟨i+1,rfl,hlt,fun j hj hji=>by rcases Nat.lt_succ_iff_lt_or_eq.1 hji with h1 | rfl;exact hp j hj h1;simpa using hpi⟩,by simp;omega⟩
  ·
   obtain rfl:i=l.length:=by omega
   rw [hout]
   refine .inr ⟨_,rfl,-1,rfl,?_⟩
   have:l.any p=false:=by
    rw [List.any_eq_false]
    intro x hx
    obtain ⟨j,hj,rfl⟩:=List.mem_iff_getElem.1 hx
    simp [hp j hj hj]
   rw [this];decide
 exact ⟨x,by rw [h1,Option.bind_some];exact h2,h3⟩
theorem loop_fold {α σ:Type} (l:List α) (f:σ→α→σ) (s0:σ) {body:σ × Int→Option (Step (σ × Int) σ)} (h:∀ (s:σ) (i:Nat) (hi:i<l.length),body (s,(i:Int))=some (.next (f s l[i],((i+1:Nat):Int))))
  (hout:∀ s,body (s,(l.length:Int))=some (.out s)):loopO body (s0,(0:Int))=some (l.foldl f s0):=by
 refine loop_to (fun s=>∃ i:Nat,s.2=(i:Int)∧i≤l.length∧s.1=(l.take i).foldl f s0) (fun s=>l.length - s.2.toNat) (fun _=>l.foldl f s0) ?_ _ ⟨0,rfl,by omega,by simp⟩
 rintro ⟨s,i0⟩ ⟨i,hi0,hi,hs⟩
 simp only at hi0 hs
 subst hi0
 by_cases hlt:i<l.length
 ·
  refine .inl ⟨_,h s i hlt,⟨i+1,rfl,hlt,?_⟩,by simp;omega,rfl⟩
  rw [hs,List.take_succ_eq_append_getElem hlt,List.foldl_append]
  rfl
 ·
  obtain rfl:i=l.length:=by omega
  rw [hout,hs,List.take_length]
  exact .inr rfl
end Go.Proofs.YtmbdbdhdcbdcpaaGreatDoor

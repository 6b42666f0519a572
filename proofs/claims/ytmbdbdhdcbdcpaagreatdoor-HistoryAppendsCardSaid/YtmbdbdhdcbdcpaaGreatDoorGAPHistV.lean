/- history.copied and history.Append, plainly. -/
import Derived.Test.YtmbdbdhdcbdcpaaGreatDoorGAPHist2
import Derived.Test.YtmbdbdhdcbdcpaaGreatDoorGAF4
namespace Go.Proofs.YtmbdbdhdcbdcpaaGreatDoor
open Go Abs
set_option linter.unusedSimpArgs false
set_option linter.unusedVariables false
theorem loop_keep {α:Type}{l:List α}{body:(List α × Int)→Option (Step (List α × Int) (List α))}
  (h:∀ (i:Nat) (hi:i<l.length),body (l,(i:Int))=some (.next (l,((i+1:Nat):Int)))) (hout:body (l,(l.length:Int))=some (.out l)):loopO body (l,(0:Int))=some l:=by
 refine loop_to (fun s=>∃ i:Nat,s=(l,(i:Int))∧i≤l.length) (fun s=>l.length - s.2.toNat) (fun _=>l) ?_ _ ⟨0,rfl,by omega⟩
 rintro s ⟨i,rfl,hi⟩
 by_cases hlt:i<l.length
 ·
  exact .inl ⟨_,h i hlt,⟨i+1,rfl,hlt⟩,by simp;omega,rfl⟩
 ·
  obtain rfl:i=l.length:=by omega
  rw [hout]
  exact .inr rfl
theorem set_same {α:Type}{l:List α}{i:Nat} (hi:i<l.length):List.set l (Int.toNat (i:Int)) l[i]=l:=by
 rw [Int.toNat_natCast];exact List.set_getElem_self hi
theorem veta (v:ApiValue):ApiValue.mk v.Kind v.Int v.Text v.Items v.Keys=v:=by cases v;rfl
theorem valuesF_eq:∀ (n:Nat) (l:List ApiValue),okLs 80 okApiValue l→hgts l<n→history_valuesF n l=some l:=by
 intro n
 induction n with
 | zero=>intro l _ h;omega
 | succ n ih =>
  intro l hl hn
  have h80:=hl.2.1
  rw [history_valuesF,slices_Clone_api_Value_api_Value_mut,app_ok (by simp;omega),Option.bind_some,List.nil_append]
  have hloop:loopO (history_values_l1 (history_valuesF n) l) (l,(0:Int))=some l:=by
   refine loop_keep (fun i hi=>?_) ?_
   ·
    have hv:=hl.2.2 _ (List.getElem_mem hi)
    obtain ⟨k0,k1,k2,k3,k4⟩:=(okApiValue_iff _).1 hv
    have h16:=k4.2.1
    have hg:=hgts_ge (List.getElem_mem hi)
    have he:=hgt_eq l[i]
    unfold history_values_l1
    rw [cond_d,if_pos (by simp only;omega),idx_ok hi,Option.bind_some,ih _ k3 (by omega),Option.bind_some,slices_Clone_string_string,app_ok (by simp;omega),Option.bind_some,List.nil_append,Option.bind_some,w64s hi hl.1]
    simp only [veta,set_same hi]
   ·
    unfold history_values_l1
    rw [cond_d,if_neg (by simp only;omega)]
  rw [hloop]
  rfl
theorem values_eq {l:List ApiValue} (hl:okLs 80 okApiValue l):history_values l=some l:=lim_eq (hgts l+1) fun n hn=>valuesF_eq n l hl (by omega)
theorem copied_eq {l:List ApiEvent} (hl:okLs 272 okApiEvent l):history_copied l=some l:=by
 have h272:=hl.2.1
 unfold history_copied
 rw [slices_Clone_api_Event_api_Event_mut,app_ok (by simp;omega),Option.bind_some,List.nil_append]
 have hloop:loopO (history_copied_l1 l) (l,(0:Int))=some l:=by
  refine loop_keep (fun i hi=>?_) ?_
  ·
   have he:=hl.2.2 _ (List.getElem_mem hi)
   have hd:okApiValue l[i].Data:=he.2.2.2.2.2.2.2.2.2.1
   have ho:okApiPolicy l[i].Opts:=he.2.2.2.2.2.2.2.2.2.2
   have h16:=ho.2.2.2.2.2.2.2.2.2.2.1
   unfold history_copied_l1
   rw [cond_d,if_pos (by simp only;omega),idx_ok hi,Option.bind_some,values_eq ⟨by simp,by simp,fun x hx=>by rw [List.mem_singleton] at hx;rw [hx];exact hd⟩,Option.bind_some]
   rw [show idx [l[i].Data] (0:Int)=some l[i].Data from rfl,Option.bind_some,slices_Clone_string_string,app_ok (by simp;omega),Option.bind_some,List.nil_append,Option.bind_some,w64s hi hl.1]
   simp only [set_same hi]
  ·
   unfold history_copied_l1
   rw [cond_d,if_neg (by simp only;omega)]
 rw [hloop]
 rfl
theorem okLs_app {α:Type}{k:Nat}{ok:α→Prop}{l m:List α} (hl:okLs k ok l) (hm:okLs k ok m) (h:(l++m).length≤9223372036854775807∧(l++m).length*k≤140737488351232):okLs k ok (l++m) :=
 ⟨h.1,h.2,fun x hx=>by rcases List.mem_append.1 hx with h | h;exact hl.2.2 x h;exact hm.2.2 x h⟩
theorem Append_eq {l m:List ApiEvent} (hl:okLs 272 okApiEvent l) (hm:okLs 272 okApiEvent m) (h1:l.length≤200) (h2:m.length≤200) :
  okLs 272 okApiEvent (l++m)∧history_Append l m=some (if chk 0 (l++m) zeroK=0 then (l++m,0) else ([],chk 0 (l++m) zeroK)):=by
 have hok:=okLs_app hl hm (by rw [List.length_append];omega)
 refine ⟨hok,?_⟩
 unfold history_Append
 rw [copied_eq hl,Option.bind_some,copied_eq hm,Option.bind_some,app_ok (by omega),Option.bind_some,Check_eq hok,if_neg (by rw [List.length_append];omega),Option.bind_some,Bool.cond_not,cond_d]
 by_cases h0:chk 0 (l++m) zeroK=0
 ·
  rw [if_pos h0,if_pos h0]
 ·
  rw [if_neg h0,if_neg h0]
end Go.Proofs.YtmbdbdhdcbdcpaaGreatDoor

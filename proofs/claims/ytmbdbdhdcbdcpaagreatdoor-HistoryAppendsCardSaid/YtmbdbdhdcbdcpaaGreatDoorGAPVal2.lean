/- Well-formed values, plainly: value.Right is its reference. -/
import Derived.Test.YtmbdbdhdcbdcpaaGreatDoorGAPVal1
namespace Go.Proofs.YtmbdbdhdcbdcpaaGreatDoor
open Go Abs
set_option linter.unusedSimpArgs false
set_option linter.unusedVariables false
def longS (k:List UInt8):Bool:=decide ((4096:Int)<(k.length:Int))
mutual
def shr:ApiValue→Bool
 | ⟨_,_,t,l,ks⟩=>!longS t&&!ks.any longS&&shrs l
def shrs:List ApiValue→Bool
 | []=>true
 | x :: l=>shr x&&shrs l
end
theorem shrs_all:∀ l,shrs l=l.all shr
 | []=>rfl
 | x :: l=>by simp [shrs,shrs_all l]
theorem shr_eq (v:ApiValue):shr v=(!longS v.Text&&!v.Keys.any longS&&v.Items.all shr):=by cases v;simp [shr,shrs_all]
theorem not_any_all {α:Type} (l:List α) (p:α→Bool):(!l.any p)=l.all fun x=>!p x:=by simp [List.not_any_eq_all_not]
theorem longs_eq {ks:List (List UInt8)} (h:ks.length≤9223372036854775807):slices_ContainsFunc_string_string_value_short_1 ks=some (ks.any longS):=by
 unfold slices_ContainsFunc_string_string_value_short_1 slices_IndexFunc_string_string_value_short_1
 obtain ⟨x,h1,h2⟩:=loop_find (body:=slices_IndexFunc_string_string_value_short_1_l1 ks) ks longS (fun i hi=>by
  unfold slices_IndexFunc_string_string_value_short_1_l1
  rw [cond_d,if_pos (by omega),idx_ok hi,Option.bind_some,value_short_1,Option.bind_some,w64s hi h]
  show cond (longS ks[i]) _ _=_
  cases longS ks[i] <;> rfl) (by
  unfold slices_IndexFunc_string_string_value_short_1_l1
  rw [cond_d,if_neg (by omega)])
 rw [h1,Option.bind_some,h2]
theorem shortF_eq:∀ (n:Nat) (v:ApiValue),okApiValue v→4*hgt v≤n→value_shortF n v=some (shr v):=by
 intro n
 induction n using Nat.strongRecOn with
 | _ n ih =>
  intro v hv hn
  have hh:=hgt_eq v
  obtain ⟨m,rfl⟩:∃ m,n=m+4:=⟨n - 4,by omega⟩
  obtain ⟨k0,k1,k2,k3,k4⟩:=(okApiValue_iff v).1 hv
  have hC:slices_ContainsFunc_api_Value_api_Value_value_short_2F (m+3) v.Items=some (v.Items.any fun x=>!shr x):=by
   rw [slices_ContainsFunc_api_Value_api_Value_value_short_2F,slices_IndexFunc_api_Value_api_Value_value_short_2F]
   obtain ⟨x,h1,h2⟩:=loop_find (body:=slices_IndexFunc_api_Value_api_Value_value_short_2_l1 (value_short_2F (m+1)) v.Items) v.Items (fun x=>!shr x) (fun i hi=>by
    unfold slices_IndexFunc_api_Value_api_Value_value_short_2_l1
    rw [cond_d,if_pos (by omega),idx_ok hi,Option.bind_some,value_short_2F,ih m (by omega) _ (k3.2.2 _ (List.getElem_mem hi)) (by have:=hgts_ge (List.getElem_mem hi);omega),Option.bind_some,Option.bind_some,w64s hi k3.1]
    cases shr v.Items[i] <;> rfl) (by
    unfold slices_IndexFunc_api_Value_api_Value_value_short_2_l1
    rw [cond_d,if_neg (by omega)])
   rw [h1,Option.bind_some,h2]
  rw [value_shortF,longs_eq k4.1,hC,shr_eq]
  by_cases h:(4096:Int)<v.Text.length
  ·
   simp [h,gd,longS]
  ·
   have hA:(!v.Items.any fun x=>!shr x)=v.Items.all shr:=by rw [not_any_all];simp
   have ht:longS v.Text=false:=by simp [longS,h]
   simp only [h,ht,decide_false,beq_self_eq_true,gd,if_true,Option.bind_some,cond_false,Bool.not_false,Bool.true_and,hA]
   cases v.Keys.any longS <;> rfl
theorem value_short_eq {v:ApiValue} (hv:okApiValue v):value_short v=some (shr v):=lim_eq (4*hgt v) fun n hn=>shortF_eq n v hv hn
theorem refShortF_eq:∀ (n:Nat) (v:ApiValue),okApiValue v→hgt v≤n→ref02xShortF n v=some (shr v):=by
 intro n
 induction n with
 | zero=>intro v hv hn;have:=hgt_eq v;omega
 | succ n ih =>
  intro v hv hn
  have hh:=hgt_eq v
  obtain ⟨k0,k1,k2,k3,k4⟩:=(okApiValue_iff v).1 hv
  rw [ref02xShortF,shr_eq,cond_d]
  by_cases h:(4096:Int)<v.Text.length
  ·
   rw [if_pos h];simp [longS,h]
  ·
   rw [if_neg h]
   rw [loop_all v.Keys.length (fun i=>!longS (v.Keys.getD i default)) false (fun i hi=>?_) ?_,Option.bind_some,all_range v.Keys fun k=>!longS k]
   ·
    rw [not_any_all]
    have ht:longS v.Text=false:=by simp [longS,h]
    rw [ht]
    cases v.Keys.all fun x=>!longS x
    ·
     rfl
    ·
     simp only [if_true,Fl.next,Bool.not_false,Bool.true_and]
     rw [loop_all v.Items.length (fun i=>shr (v.Items.getD i default)) false (fun i hi=>?_) ?_,Option.bind_some,all_range v.Items shr]
     ·
      cases v.Items.all shr <;> rfl
     ·
      unfold ref02xShort_l2
      rw [cond_d,if_neg (by omega)]
     ·
      unfold ref02xShort_l2
      rw [cond_d,if_pos (by omega),idx_ok hi,Option.bind_some,ih _ (k3.2.2 _ (List.getElem_mem hi)) (by have:=hgts_ge (List.getElem_mem hi);omega),Option.bind_some,w64s hi k3.1]
      simp only [List.getD_eq_getElem?_getD,List.getElem?_eq_getElem hi,Option.getD_some]
      cases shr v.Items[i] <;> rfl
   ·
    unfold ref02xShort_l1
    rw [cond_d,if_neg (by omega)]
   ·
    unfold ref02xShort_l1
    rw [cond_d,if_pos (by omega),idx_ok hi,Option.bind_some,w64s hi k4.1]
    simp only [List.getD_eq_getElem?_getD,List.getElem?_eq_getElem hi,Option.getD_some]
    show cond (longS v.Keys[i]) _ _=_
    cases longS v.Keys[i] <;> rfl
theorem refShort_eq {v:ApiValue} (hv:okApiValue v):ref02xShort v=some (shr v):=lim_eq (hgt v) fun n hn=>refShortF_eq n v hv hn
def wth (v:ApiValue):Bool:=decide (dep v≤16)&&decide (siz v≤1000)&&shr v
theorem value_within_eq {v:ApiValue} (hv:okApiValue v):value_within v=some (wth v):=by
 unfold value_within wth
 rw [value_Depth_eq hv,Option.bind_some,value_Size_eq hv,value_short_eq hv]
 by_cases h1:dep v≤16 <;> by_cases h2:siz v≤1000 <;> simp [h1,h2,gd]
theorem refWithin_eq {v:ApiValue} (hv:okApiValue v):ref02xWithin v=some (wth v):=by
 unfold ref02xWithin wth
 rw [refShort_eq hv,Option.bind_some,refDepth_eq hv,refSize_eq hv]
 cases h3:shr v
 ·
  simp [gd]
 ·
  by_cases h1:dep v≤16
  ·
   simp [h1,gd]
  ·
   simp [h1,gd]
def rise (l:List (List UInt8)):Bool:=(List.range (l.length - 1)).all fun i=>Op.bytesLess (l.getD i []) (l.getD (i+1) [])
theorem rise_iff {l:List (List UInt8)}:rise l=true↔∀ (i:Nat) (hi:i+1<l.length),Op.bytesLess (l[i]'(by omega)) l[i+1]=true:=by
 unfold rise
 rw [List.all_eq_true]
 constructor
 ·
  intro h i hi
  have:=h i (List.mem_range.2 (by omega))
  rw [List.getD_eq_getElem?_getD,List.getD_eq_getElem?_getD,List.getElem?_eq_getElem (by omega),List.getElem?_eq_getElem hi] at this
  exact this
 ·
  intro h i hi
  have hi:=List.mem_range.1 hi
  rw [List.getD_eq_getElem?_getD,List.getD_eq_getElem?_getD,List.getElem?_eq_getElem (by omega),List.getElem?_eq_getElem (by omega)]
  exact h i (by omega)
theorem rise_out {l:List (List UInt8)}{body:Int→Option (Step Int (Fl Bool Unit))} (h:∀ (i:Nat) (h1:1≤i) (hi:i<l.length),body (i:Int)=some (if Op.bytesLess (l[i - 1]'(by omega)) l[i]=true then .next ((i+1:Nat):Int) else .out (.done false)))
  (hout:∀ i:Nat,l.length≤i→body (i:Int)=some (.out (.go ()))):loopO body (1:Int)=some (if rise l=true then .go () else .done false):=by
 have key:∃ x,loopO body (1:Int)=some x∧x=if rise l=true then .go () else .done false:=by
  refine loop_ex (fun s=>∃ i:Nat,s=(i:Int)∧1≤i∧∀ (k:Nat) (hk:k+1<l.length),k+1<i→Op.bytesLess (l[k]'(by omega)) l[k+1]=true) (fun s=>l.length - s.toNat) _ ?_ _ ⟨1,rfl,by omega,fun k hk hk2=>by omega⟩
  rintro s ⟨i,rfl,h1,hd⟩
  by_cases hlt:i<l.length
  ·
   rw [h i h1 hlt]
   by_cases hb:Op.bytesLess (l[i - 1]'(by omega)) l[i]=true
   ·
    rw [if_pos hb]
    refine .inl ⟨_,rfl,⟨i+1,rfl,by omega,fun k hk hk2=>?_⟩,by simp only [Int.toNat_natCast];omega⟩
    by_cases e:k+1=i
    ·
     subst e;exact hb
    ·
     exact hd k hk (by omega)
   ·
    rw [if_neg hb]
    refine .inr ⟨_,rfl,?_⟩
    rw [if_neg fun hr=>hb (by
     have:=rise_iff.1 hr (i - 1) (by omega)
     simp only [show i - 1+1=i by omega] at this
     exact this)]
  ·
   rw [hout i (by omega)]
   refine .inr ⟨_,rfl,?_⟩
   rw [if_pos (rise_iff.2 fun k hk=>hd k hk (by omega))]
 obtain ⟨x,hx,rfl⟩:=key
 exact hx
theorem refRising_eq {l:List (List UInt8)} (h:l.length≤9223372036854775807):ref02xRising l=some (rise l):=by
 unfold ref02xRising
 rw [rise_out (l:=l) (fun i h1 hi=>?_) (fun i hi=>?_),Option.bind_some]
 ·
  cases rise l <;> rfl
 ·
  unfold ref02xRising_l1
  rw [cond_d,if_pos (by omega),w64 (by omega) (by omega),show (i:Int) - 1=((i - 1:Nat):Int) by omega,idx_ok (by omega),Option.bind_some,idx_ok hi,Option.bind_some,w64s hi h]
  cases Op.bytesLess (l[i - 1]'(by omega)) l[i] <;> rfl
 ·
  unfold ref02xRising_l1
  rw [cond_d,if_neg (by omega)]
theorem ascending_eq {l:List (List UInt8)} (h:l.length≤9223372036854775807):value_ascending l=some (rise l):=by
 unfold value_ascending
 rw [rise_out (l:=l) (fun i h1 hi=>?_) (fun i hi=>?_),Option.bind_some]
 ·
  cases rise l <;> rfl
 ·
  unfold value_ascending_l1
  rw [cond_d,if_pos (by omega),w64 (by omega) (by omega),show (i:Int) - 1=((i - 1:Nat):Int) by omega,idx_ok (by omega),Option.bind_some,idx_ok hi,Option.bind_some,w64s hi h]
  cases Op.bytesLess (l[i - 1]'(by omega)) l[i] <;> rfl
 ·
  unfold value_ascending_l1
  rw [cond_d,if_neg (by omega)]
def floc (o:Bool) (v:ApiValue):Bool :=
 if v.Kind=0 then decide (v.Int=0)&&decide (v.Text=[])&&decide (v.Items.length=0)&&decide (v.Keys.length=0)
 else if v.Kind=1 then (decide (v.Int=0)||decide (v.Int=1))&&decide (v.Text=[])&&decide (v.Items.length=0)&&decide (v.Keys.length=0)
 else if v.Kind=2 then decide (v.Text=[])&&decide (v.Items.length=0)&&decide (v.Keys.length=0)
 else if v.Kind=6 then o&&decide (0≤v.Int)&&decide (v.Text=[])&&decide (v.Items.length=0)&&decide (v.Keys.length=0)
 else if v.Kind=3 then decide (v.Int=0)&&decide (v.Items.length=0)&&decide (v.Keys.length=0)
 else if v.Kind=4 then decide (v.Int=0)&&decide (v.Text=[])&&decide (v.Keys.length=0)
 else if v.Kind=5 then decide (v.Int=0)&&decide (v.Text=[])&&decide (v.Keys.length=v.Items.length)&&rise v.Keys
 else false
mutual
def fmd (o:Bool):ApiValue→Bool
 | ⟨k,i,t,l,ks⟩=>floc o ⟨k,i,t,l,ks⟩&&fmds o l
def fmds (o:Bool):List ApiValue→Bool
 | []=>true
 | x :: l=>fmd o x&&fmds o l
end
mutual
def fut:ApiValue→Bool
 | ⟨k,_,_,l,_⟩=>decide (k=6)||futs l
def futs:List ApiValue→Bool
 | []=>false
 | x :: l=>fut x||futs l
end
theorem fmds_all (o:Bool):∀ l,fmds o l=l.all (fmd o)
 | []=>by simp [fmds]
 | x :: l=>by simp [fmds,fmds_all o l]
theorem futs_any:∀ l,futs l=l.any fut
 | []=>by simp [futs]
 | x :: l=>by simp [futs,futs_any l]
theorem fmd_eq (o:Bool) (v:ApiValue):fmd o v=(floc o v&&v.Items.all (fmd o)):=by cases v;simp only [fmd,fmds_all]
theorem fut_eq (v:ApiValue):fut v=(decide (v.Kind=6)||v.Items.any fut):=by cases v;simp only [fut,futs_any]
theorem floc_f (v:ApiValue):floc false v=(floc true v&&!decide (v.Kind=6)):=by
 unfold floc
 by_cases h0:v.Kind=0
 ·
  simp [h0]
 ·
  by_cases h1:v.Kind=1
  ·
   simp [h1]
  ·
   by_cases h2:v.Kind=2
   ·
    simp [h2]
   ·
    by_cases h6:v.Kind=6
    ·
     simp [h6]
    ·
     simp [h0,h1,h2,h6]
theorem fmd_f:∀ (n:Nat) (v:ApiValue),hgt v≤n→fmd false v=(fmd true v&&!fut v):=by
 intro n
 induction n with
 | zero=>intro v h;have:=hgt_eq v;omega
 | succ n ih =>
  intro v h
  have hall:v.Items.all (fmd false)=(v.Items.all (fmd true)&&!v.Items.any fut):=by
   have key:∀ l:List ApiValue,(∀ x∈l,fmd false x=(fmd true x&&!fut x))→l.all (fmd false)=(l.all (fmd true)&&!l.any fut):=by
    intro l
    induction l with
    | nil=>intro _;rfl
    | cons x l ihl =>
     intro hx
     simp only [List.all_cons,List.any_cons]
     rw [ihl fun y hy=>hx y (by simp [hy]),hx x (by simp)]
     cases fmd true x <;> cases fut x <;> cases l.all (fmd true) <;> cases l.any fut <;> rfl
   exact key v.Items fun x hx=>ih x (by have:=hgt_lt hx;omega)
  rw [fmd_eq,fmd_eq,fut_eq,floc_f,hall]
  cases floc true v <;> cases decide (v.Kind=6) <;> cases v.Items.all (fmd true) <;> cases v.Items.any fut <;> rfl
theorem len0 {α:Type} (l:List α):decide ((0:Int)<(l.length:Int))=!decide (l.length=0):=by cases l <;> simp <;> omega
theorem leni {α:Type} (l:List α):decide ((l.length:Int)=0)=decide (l.length=0):=by rw [Bool.eq_iff_iff];simp
theorem lene {α β:Type} (l:List α) (m:List β):decide ((l.length:Int)=m.length)=decide (l.length=m.length):=by rw [Bool.eq_iff_iff];simp;omega
theorem formedF_eq:∀ (n:Nat) (v:ApiValue) (o:Bool),okApiValue v→4*hgt v≤n→value_formedF n v o=some (fmd o v):=by
 intro n
 induction n using Nat.strongRecOn with
 | _ n ih =>
  intro v o hv hn
  have hh:=hgt_eq v
  obtain ⟨m,rfl⟩:∃ m,n=m+4:=⟨n - 4,by omega⟩
  obtain ⟨k0,k1,k2,k3,k4⟩:=(okApiValue_iff v).1 hv
  have hC:slices_ContainsFunc_api_Value_api_Value_value_formed_1F (m+3) v.Items o=some (v.Items.any fun x=>!fmd o x):=by
   rw [slices_ContainsFunc_api_Value_api_Value_value_formed_1F,slices_IndexFunc_api_Value_api_Value_value_formed_1F]
   obtain ⟨x,h1,h2⟩:=loop_find (body:=slices_IndexFunc_api_Value_api_Value_value_formed_1_l1 (value_formed_1F (m+1)) v.Items o) v.Items (fun x=>!fmd o x) (fun i hi=>by
    unfold slices_IndexFunc_api_Value_api_Value_value_formed_1_l1
    rw [cond_d,if_pos (by omega),idx_ok hi,Option.bind_some,value_formed_1F,ih m (by omega) _ _ (k3.2.2 _ (List.getElem_mem hi)) (by have:=hgts_ge (List.getElem_mem hi);omega),Option.bind_some,Option.bind_some,w64s hi k3.1]
    cases fmd o v.Items[i] <;> rfl) (by
    unfold slices_IndexFunc_api_Value_api_Value_value_formed_1_l1
    rw [cond_d,if_neg (by omega)])
   rw [h1,Option.bind_some,h2]
  have hA:(!v.Items.any fun x=>!fmd o x)=v.Items.all (fmd o):=by rw [not_any_all];simp
  have hE:∀ b:Bool,(b=true→v.Items.length=0)→b=(b&&v.Items.all (fmd o)):=fun b hb=>by
   cases b
   ·
    rfl
   ·
    have:v.Items=[]:=List.eq_nil_of_length_eq_zero (hb rfl)
    rw [this];rfl
  rw [value_formedF,ascending_eq k4.1,hC,fmd_eq]
  unfold floc
  by_cases h0:v.Kind=0
  ·
   simp only [h0,Int.reduceEq,if_true,if_false,decide_true,decide_false,cond_true,cond_false,Option.bind_some,Fl.next,len0]
   rw [← hE _ (by simp only [Bool.and_eq_true,decide_eq_true_eq];rintro ⟨⟨_,h⟩,_⟩;exact h)]
   cases decide (v.Int=0) <;> cases decide (v.Text=[]) <;> cases decide (v.Items.length=0) <;> cases decide (v.Keys.length=0) <;> rfl
  by_cases h1:v.Kind=1
  ·
   simp only [h1,Int.reduceEq,if_true,if_false,decide_true,decide_false,cond_true,cond_false,Option.bind_some,Fl.next,len0]
   rw [← hE _ (by simp only [Bool.and_eq_true,decide_eq_true_eq];rintro ⟨⟨_,h⟩,_⟩;exact h)]
   cases decide (v.Int=0) <;> cases decide (v.Int=1) <;> cases decide (v.Text=[]) <;> cases decide (v.Items.length=0) <;> cases decide (v.Keys.length=0) <;> rfl
  by_cases h2:v.Kind=2
  ·
   simp only [h2,Int.reduceEq,if_true,if_false,decide_true,decide_false,cond_true,cond_false,Option.bind_some,Fl.next,len0]
   rw [← hE _ (by simp only [Bool.and_eq_true,decide_eq_true_eq];rintro ⟨⟨_,h⟩,_⟩;exact h)]
   cases decide (v.Text=[]) <;> cases decide (v.Items.length=0) <;> cases decide (v.Keys.length=0) <;> rfl
  by_cases h6:v.Kind=6
  ·
   simp only [h6,Int.reduceEq,if_true,if_false,decide_true,decide_false,cond_true,cond_false,Option.bind_some,Fl.next,len0]
   rw [← hE _ (by simp only [Bool.and_eq_true,decide_eq_true_eq];rintro ⟨⟨_,h⟩,_⟩;exact h)]
   cases o <;> cases decide (0≤v.Int) <;> cases decide (v.Text=[]) <;> cases decide (v.Items.length=0) <;> cases decide (v.Keys.length=0) <;> rfl
  by_cases h3:v.Kind=3
  ·
   simp only [h3,Int.reduceEq,if_true,if_false,decide_true,decide_false,cond_true,cond_false,Option.bind_some,Fl.next,len0]
   rw [← hE _ (by simp only [Bool.and_eq_true,decide_eq_true_eq];rintro ⟨⟨_,h⟩,_⟩;exact h)]
   cases decide (v.Int=0) <;> cases decide (v.Items.length=0) <;> cases decide (v.Keys.length=0) <;> rfl
  by_cases h4:v.Kind=4
  ·
   simp only [h4,Int.reduceEq,if_true,if_false,decide_true,decide_false,cond_true,cond_false,len0]
   cases decide (v.Int=0) <;> cases decide (v.Text=[]) <;> cases decide (v.Keys.length=0) <;> simp [hA,Fl.next]
  by_cases h5:v.Kind=5
  ·
   simp only [h5,Int.reduceEq,if_true,if_false,decide_true,decide_false,cond_true,cond_false,lene]
   cases decide (v.Int=0) <;> cases decide (v.Text=[]) <;> cases decide (v.Keys.length=v.Items.length) <;> cases rise v.Keys <;> simp [hA,Fl.next,gd]
  simp only [h0,h1,h2,h3,h4,h5,h6,if_false,decide_false,cond_false,Option.bind_some,Fl.next,Bool.false_and]
theorem value_formed_eq {v:ApiValue}{o:Bool} (hv:okApiValue v):value_formed v o=some (fmd o v):=lim_eq (4*hgt v) fun n hn=>formedF_eq n v o hv hn
theorem WellF_eq:∀ (n:Nat) (v:ApiValue),okApiValue v→hgt v≤n→ref02xWellFormedF n v=some (fmd true v):=by
 intro n
 induction n with
 | zero=>intro v hv hn;have:=hgt_eq v;omega
 | succ n ih =>
  intro v hv hn
  have hh:=hgt_eq v
  obtain ⟨k0,k1,k2,k3,k4⟩:=(okApiValue_iff v).1 hv
  rw [ref02xWellFormedF,refRising_eq k4.1,fmd_eq]
  rw [loop_all v.Items.length (fun i=>fmd true (v.Items.getD i default)) false (fun i hi=>?_) ?_,Option.bind_some,all_range v.Items (fmd true)]
  ·
   cases v.Items.all (fmd true)
   ·
    simp [Fl.next]
   ·
    simp only [if_true,Fl.next,Bool.and_true]
    unfold floc
    by_cases h0:v.Kind=0
    ·
     simp only [h0,Int.reduceEq,if_true,if_false,decide_true,decide_false,cond_true,cond_false,leni]
     cases decide (v.Int=0) <;> cases decide (v.Text=[]) <;> cases decide (v.Items.length=0) <;> cases decide (v.Keys.length=0) <;> rfl
    by_cases h1:v.Kind=1
    ·
     simp only [h1,Int.reduceEq,if_true,if_false,decide_true,decide_false,cond_true,cond_false,leni]
     cases decide (v.Int=0) <;> cases decide (v.Int=1) <;> cases decide (v.Text=[]) <;> cases decide (v.Items.length=0) <;> cases decide (v.Keys.length=0) <;> rfl
    by_cases h2:v.Kind=2
    ·
     simp only [h2,Int.reduceEq,if_true,if_false,decide_true,decide_false,cond_true,cond_false,leni]
     cases decide (v.Text=[]) <;> cases decide (v.Items.length=0) <;> cases decide (v.Keys.length=0) <;> rfl
    by_cases h6:v.Kind=6
    ·
     simp only [h6,Int.reduceEq,if_true,if_false,decide_true,decide_false,cond_true,cond_false,leni]
     cases decide (0≤v.Int) <;> cases decide (v.Text=[]) <;> cases decide (v.Items.length=0) <;> cases decide (v.Keys.length=0) <;> rfl
    by_cases h3:v.Kind=3
    ·
     simp only [h3,Int.reduceEq,if_true,if_false,decide_true,decide_false,cond_true,cond_false,leni]
     cases decide (v.Int=0) <;> cases decide (v.Items.length=0) <;> cases decide (v.Keys.length=0) <;> rfl
    by_cases h4:v.Kind=4
    ·
     simp only [h4,Int.reduceEq,if_true,if_false,decide_true,decide_false,cond_true,cond_false,leni]
     cases decide (v.Int=0) <;> cases decide (v.Text=[]) <;> cases decide (v.Keys.length=0) <;> rfl
    by_cases h5:v.Kind=5
    ·
     simp only [h5,Int.reduceEq,if_true,if_false,decide_true,decide_false,cond_true,cond_false,lene]
     cases decide (v.Int=0) <;> cases decide (v.Text=[]) <;> cases decide (v.Keys.length=v.Items.length) <;> cases rise v.Keys <;> rfl
    simp only [h0,h1,h2,h3,h4,h5,h6,if_false,decide_false,cond_false]
  ·
   unfold ref02xWellFormed_l1
   rw [cond_d,if_neg (by omega)]
  ·
   unfold ref02xWellFormed_l1
   rw [cond_d,if_pos (by omega),idx_ok hi,Option.bind_some,ih _ (k3.2.2 _ (List.getElem_mem hi)) (by have:=hgts_ge (List.getElem_mem hi);omega),Option.bind_some,w64s hi k3.1]
   simp only [List.getD_eq_getElem?_getD,List.getElem?_eq_getElem hi,Option.getD_some]
   cases fmd true v.Items[i] <;> rfl
theorem refWellFormed_eq {v:ApiValue} (hv:okApiValue v):ref02xWellFormed v=some (fmd true v):=lim_eq (hgt v) fun n hn=>WellF_eq n v hv hn
theorem FutF_eq:∀ (n:Nat) (v:ApiValue),okApiValue v→hgt v≤n→ref02xFutureF n v=some (fut v):=by
 intro n
 induction n with
 | zero=>intro v hv hn;have:=hgt_eq v;omega
 | succ n ih =>
  intro v hv hn
  have hh:=hgt_eq v
  obtain ⟨k0,k1,k2,k3,k4⟩:=(okApiValue_iff v).1 hv
  rw [ref02xFutureF,fut_eq]
  rw [loop_all v.Items.length (fun i=>!fut (v.Items.getD i default)) true (fun i hi=>?_) ?_,Option.bind_some,all_range v.Items fun x=>!fut x,← not_any_all]
  ·
   cases v.Items.any fut
   ·
    simp only [Bool.not_false,if_true,Fl.next,Bool.or_false]
   ·
    simp [Fl.next]
  ·
   unfold ref02xFuture_l1
   rw [cond_d,if_neg (by omega)]
  ·
   unfold ref02xFuture_l1
   rw [cond_d,if_pos (by omega),idx_ok hi,Option.bind_some,ih _ (k3.2.2 _ (List.getElem_mem hi)) (by have:=hgts_ge (List.getElem_mem hi);omega),Option.bind_some,w64s hi k3.1]
   simp only [List.getD_eq_getElem?_getD,List.getElem?_eq_getElem hi,Option.getD_some]
   cases fut v.Items[i] <;> rfl
theorem refFuture_eq {v:ApiValue} (hv:okApiValue v):ref02xFuture v=some (fut v):=lim_eq (hgt v) fun n hn=>FutF_eq n v hv hn
noncomputable def vright (v:ApiValue):Bool:=wth v&&fmd false v
theorem value_Right_eq {v:ApiValue} (hv:okApiValue v):value_Right v=some (vright v):=by
 unfold value_Right vright
 rw [value_within_eq hv,Option.bind_some,value_formed_eq hv]
 cases wth v <;> simp [gd]
theorem refRight02_eq {v:ApiValue} (hv:okApiValue v):ref02xRight v=some (vright v):=by
 unfold ref02xRight vright
 rw [refWellFormed_eq hv,Option.bind_some,refWithin_eq hv,refFuture_eq hv,fmd_f (hgt v) v (Nat.le_refl _)]
 cases wth v <;> cases fmd true v <;> cases fut v <;> rfl
end Go.Proofs.YtmbdbdhdcbdcpaaGreatDoor

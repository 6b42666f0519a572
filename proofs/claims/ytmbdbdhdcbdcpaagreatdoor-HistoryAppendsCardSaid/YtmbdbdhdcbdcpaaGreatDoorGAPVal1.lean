/- What the value package computes, and its reference, plainly. -/
import Derived.Test.YtmbdbdhdcbdcpaaGreatDoorGAPLoop
import Derived.Test.YtmbdbdhdcbdcpaaGreatDoorGAF0
import Derived.Test.YtmbdbdhdcbdcpaaGreatDoorGAF1
import Derived.Test.YtmbdbdhdcbdcpaaGreatDoorGAF5
import Derived.Test.YtmbdbdhdcbdcpaaGreatDoorGAF6
import Derived.Test.YtmbdbdhdcbdcpaaGreatDoorGASh
namespace Go.Proofs.YtmbdbdhdcbdcpaaGreatDoor
open Go Abs
set_option linter.unusedSimpArgs false
set_option linter.unusedVariables false
mutual
def hgt:ApiValue→Nat
 | ⟨_,_,_,l,_⟩=>hgts l+1
def hgts:List ApiValue→Nat
 | []=>0
 | x :: l=>max (hgt x) (hgts l)
end
theorem hgts_ge:∀ {l:List ApiValue}{x:ApiValue},x∈l→hgt x≤hgts l
 | [],x,h=>by simp at h
 | y :: l,x,h=>by
  simp only [hgts]
  rcases List.mem_cons.1 h with rfl | h
  ·
   omega
  ·
   have:=hgts_ge h;omega
theorem hgt_eq (v:ApiValue):hgt v=hgts v.Items+1:=by cases v;simp [hgt]
theorem hgt_lt {v x:ApiValue} (h:x∈v.Items):hgt x<hgt v:=by have:=hgts_ge h;have:=hgt_eq v;omega
mutual
def vsame:ApiValue→ApiValue→Bool
 | ⟨k,i,t,l,ks⟩,w=>decide (k=w.Kind)&&decide (i=w.Int)&&decide (t=w.Text)&&decide (ks=w.Keys)&&vsames l w.Items
def vsames:List ApiValue→List ApiValue→Bool
 | [],[]=>true
 | x :: l,y :: m=>vsame x y&&vsames l m
 | _,_=>false
end
theorem vsame_eq (v w:ApiValue):vsame v w=(decide (v.Kind=w.Kind)&&decide (v.Int=w.Int)&&decide (v.Text=w.Text)&&decide (v.Keys=w.Keys)&&vsames v.Items w.Items):=by cases v;simp [vsame]
theorem vsames_iff:∀ (l m:List ApiValue),vsames l m=true↔l.length=m.length∧∀ i (h:i<l.length) (h2:i<m.length),vsame l[i] m[i]=true
 | [],[]=>by simp [vsames]
 | [],y :: m=>by simp [vsames]
 | x :: l,[]=>by simp [vsames]
 | x :: l,y :: m=>by
  simp only [vsames,Bool.and_eq_true,vsames_iff l m,List.length_cons,Nat.add_right_cancel_iff]
  constructor
  ·
   rintro ⟨h1,h2,h3⟩
   refine ⟨h2,fun i hi hi2=>?_⟩
   cases i with
   | zero=>exact h1
   | succ i=>exact h3 i (by omega) (by omega)
  ·
   rintro ⟨h2,h3⟩
   exact ⟨h3 0 (by omega) (by omega),h2,fun i hi hi2=>h3 (i+1) (by omega) (by omega)⟩
theorem vsame_iff:∀ (n:Nat) (v w:ApiValue),hgt v≤n→(vsame v w=true↔v=w):=by
 intro n
 induction n with
 | zero=>intro v w h;have:=hgt_eq v;omega
 | succ n ih =>
  intro v w h
  rw [vsame_eq]
  simp only [Bool.and_eq_true,decide_eq_true_eq,vsames_iff]
  constructor
  ·
   rintro ⟨⟨⟨⟨h1,h2⟩,h3⟩,h4⟩,h5,h6⟩
   have h7:v.Items=w.Items:=List.ext_getElem h5 fun i hi hi2=>(ih _ _ (by have:=hgt_lt (List.getElem_mem hi:v.Items[i]∈v.Items);omega)).1 (h6 i hi hi2)
   cases v;cases w;simp_all
  ·
   rintro rfl
   exact ⟨⟨⟨⟨rfl,rfl⟩,rfl⟩,rfl⟩,rfl,fun i hi _=>(ih _ _ (by have:=hgt_lt (List.getElem_mem hi:v.Items[i]∈v.Items);omega)).2 rfl⟩
theorem strings_eq {a b:List (List UInt8)} (ha:a.length≤9223372036854775807):slices_Equal_string_string a b=some (decide (a=b)):=by
 unfold slices_Equal_string_string
 rw [cond_nd]
 by_cases h:(a.length:Int)=b.length
 ·
  rw [if_pos h,loop_all a.length (fun i=>decide (a[i]?=b[i]?)) false (fun i hi=>?_) ?_,Option.bind_some]
  ·
   split
   ·
    rename_i h2
    rw [List.all_eq_true] at h2
    have:a=b:=List.ext_getElem? fun i=>by
     by_cases hi:i<a.length
     ·
      have:=h2 i (List.mem_range.2 hi);simpa using this
     ·
      rw [List.getElem?_eq_none (by omega),List.getElem?_eq_none (by omega)]
    simp [Fl.next,this]
   ·
    rename_i h2
    have:a≠b:=fun e=>h2 (by rw [List.all_eq_true];intro i _;simp [e])
    simp [Fl.next,this]
  ·
   unfold slices_Equal_string_string_l1
   rw [cond_d,if_neg (by omega)]
  ·
   unfold slices_Equal_string_string_l1
   have hb:i<b.length:=by omega
   rw [cond_d,if_pos (by omega),idx_ok hi,Option.bind_some,idx_ok hb,Option.bind_some,cond_nd,w64s hi ha,List.getElem?_eq_getElem hi,List.getElem?_eq_getElem hb]
   simp only [Option.some.injEq,decide_eq_true_eq]
   split <;> rfl
 ·
  rw [if_neg h]
  have:a≠b:=fun e=>h (by rw [e])
  simp [this]
theorem all_range_of {l m:List ApiValue} (h:l.length=m.length) (p:Nat→Bool) (hp:∀ i (h1:i<l.length) (h2:i<m.length),p i=vsame l[i] m[i]):(List.range l.length).all p=vsames l m:=by
 rw [Bool.eq_iff_iff,List.all_eq_true,vsames_iff]
 constructor
 ·
  exact fun hh=>⟨h,fun i h1 h2=>by rw [← hp i h1 h2];exact hh i (List.mem_range.2 h1)⟩
 ·
  exact fun hh i hi=>by have:=List.mem_range.1 hi;rw [hp i this (by omega)];exact hh.2 i this (by omega)
theorem SameF_eq:∀ (n:Nat) (v w:ApiValue),okApiValue v→2*hgt v≤n→value_SameF n v w=some (vsame v w):=by
 intro n
 induction n using Nat.strongRecOn with
 | _ n ih =>
  intro v w hv hn
  have hh:=hgt_eq v
  obtain ⟨m,rfl⟩:∃ m,n=m+2:=⟨n - 2,by omega⟩
  obtain ⟨k0,k1,k2,k3,k4⟩:=(okApiValue_iff v).1 hv
  have hE:slices_EqualFunc_api_Value_api_Value_api_Value_api_Value_value_SameF (m+1) v.Items w.Items=some (vsames v.Items w.Items):=by
   rw [slices_EqualFunc_api_Value_api_Value_api_Value_api_Value_value_SameF,cond_nd]
   by_cases h:(v.Items.length:Int)=w.Items.length
   ·
    rw [if_pos h,loop_all v.Items.length (fun i=>vsame (v.Items.getD i default) (w.Items.getD i default)) false (fun i hi=>?_) ?_,Option.bind_some,all_range_of (m:=w.Items) (by omega) _ (fun i h1 h2=>by simp [h1,h2])]
    ·
     cases vsames v.Items w.Items <;> rfl
    ·
     unfold slices_EqualFunc_api_Value_api_Value_api_Value_api_Value_value_Same_l1
     rw [cond_d,if_neg (by omega)]
    ·
     unfold slices_EqualFunc_api_Value_api_Value_api_Value_api_Value_value_Same_l1
     have hb:i<w.Items.length:=by omega
     rw [cond_d,if_pos (by omega),idx_ok hi,Option.bind_some,idx_ok hb,Option.bind_some,ih m (by omega) _ _ (k3.2.2 _ (List.getElem_mem hi)) (by have:=hgts_ge (List.getElem_mem hi);omega),Option.bind_some,w64s hi k3.1]
     simp only [List.getD_eq_getElem?_getD,List.getElem?_eq_getElem hi,List.getElem?_eq_getElem hb,Option.getD_some]
     cases vsame v.Items[i] w.Items[i] <;> rfl
   ·
    rw [if_neg h]
    have:vsames v.Items w.Items=false:=by rw [← Bool.not_eq_true,vsames_iff];exact fun hh=>h (by omega)
    rw [this]
  rw [value_SameF,strings_eq k4.1,hE,vsame_eq]
  by_cases h1:v.Kind=w.Kind <;> by_cases h2:v.Int=w.Int <;> by_cases h3:v.Text=w.Text <;> by_cases h4:v.Keys=w.Keys <;> simp [h1,h2,h3,h4,gd]
theorem value_Same_eq {v w:ApiValue} (hv:okApiValue v):value_Same v w=some (vsame v w):=lim_eq (2*hgt v) fun n hn=>SameF_eq n v w hv hn
theorem refSameF_eq:∀ (n:Nat) (v w:ApiValue),okApiValue v→hgt v≤n→ref02xSameF n v w=some (vsame v w):=by
 intro n
 induction n with
 | zero=>intro v w hv hn;have:=hgt_eq v;omega
 | succ n ih =>
  intro v w hv hn
  have hh:=hgt_eq v
  obtain ⟨k0,k1,k2,k3,k4⟩:=(okApiValue_iff v).1 hv
  rw [ref02xSameF,vsame_eq]
  by_cases h1:v.Kind=w.Kind
  ·
   by_cases h2:v.Int=w.Int
   ·
    by_cases h3:v.Text=w.Text
    ·
     by_cases h4:(v.Items.length:Int)=w.Items.length
     ·
      by_cases h5:(v.Keys.length:Int)=w.Keys.length
      ·
       simp only [h1,h2,h3,h4,h5,decide_true,Bool.not_true,cond_false,Bool.true_and]
       rw [loop_all v.Keys.length (fun i=>decide (v.Keys[i]?=w.Keys[i]?)) false (fun i hi=>?_) ?_,Option.bind_some]
       ·
        have hk:((List.range v.Keys.length).all fun i=>decide (v.Keys[i]?=w.Keys[i]?))=decide (v.Keys=w.Keys):=by
         rw [Bool.eq_iff_iff,List.all_eq_true]
         simp only [decide_eq_true_eq]
         constructor
         ·
          refine fun h6=>List.ext_getElem? fun i=>?_
          by_cases hi:i<v.Keys.length
          ·
           exact h6 i (List.mem_range.2 hi)
          ·
           rw [List.getElem?_eq_none (by omega),List.getElem?_eq_none (by omega)]
         ·
          intro e i _;rw [e]
        rw [hk]
        by_cases h6:v.Keys=w.Keys
        ·
         simp only [h6,decide_true,if_true,Fl.next,Bool.true_and]
         rw [loop_all v.Items.length (fun i=>vsame (v.Items.getD i default) (w.Items.getD i default)) false (fun i hi=>?_) ?_,Option.bind_some,all_range_of (m:=w.Items) (by omega) _ (fun i h1 h2=>by simp [h1,h2])]
         ·
          cases vsames v.Items w.Items <;> rfl
         ·
          unfold ref02xSame_l2
          rw [cond_d,if_neg (by omega)]
         ·
          unfold ref02xSame_l2
          have hb:i<w.Items.length:=by omega
          rw [cond_d,if_pos (by omega),idx_ok hi,Option.bind_some,idx_ok hb,Option.bind_some,ih _ _ (k3.2.2 _ (List.getElem_mem hi)) (by have:=hgts_ge (List.getElem_mem hi);omega),Option.bind_some,w64s hi k3.1]
          simp only [List.getD_eq_getElem?_getD,List.getElem?_eq_getElem hi,List.getElem?_eq_getElem hb,Option.getD_some]
          cases vsame v.Items[i] w.Items[i] <;> rfl
        ·
         simp [h6,Fl.next]
       ·
        unfold ref02xSame_l1
        rw [cond_d,if_neg (by omega)]
       ·
        unfold ref02xSame_l1
        have hb:i<w.Keys.length:=by omega
        rw [cond_d,if_pos (by omega),idx_ok hi,Option.bind_some,idx_ok hb,Option.bind_some,cond_nd,w64s hi k4.1,List.getElem?_eq_getElem hi,List.getElem?_eq_getElem hb]
        simp only [Option.some.injEq,decide_eq_true_eq]
        split <;> rfl
      ·
       have:v.Keys≠w.Keys:=fun e=>h5 (by rw [e])
       simp [h5,this]
     ·
      have:vsames v.Items w.Items=false:=by rw [← Bool.not_eq_true,vsames_iff];exact fun hh=>h4 (by omega)
      simp [h4,this]
    ·
     simp [h3]
   ·
    simp [h2]
  ·
   simp [h1]
theorem refSame_eq {v w:ApiValue} (hv:okApiValue v):ref02xSame v w=some (vsame v w):=lim_eq (hgt v) fun n hn=>refSameF_eq n v w hv hn
mutual
def dep:ApiValue→Int
 | ⟨_,_,_,l,_⟩=>IntKind.i64.wrap (deps l 0+1)
def deps:List ApiValue→Int→Int
 | [],a=>a
 | x :: l,a=>deps l (if dep x > a then dep x else a)
end
theorem dep_eq (v:ApiValue):dep v=IntKind.i64.wrap (v.Items.foldl (fun a x=>if dep x > a then dep x else a) 0+1):=by
 have key:∀ (l:List ApiValue) (a:Int),deps l a=l.foldl (fun a x=>if dep x > a then dep x else a) a:=by
  intro l
  induction l with
  | nil=>intro a;simp [deps]
  | cons x l ih=>intro a;simp [deps,ih]
 cases v;simp only [dep,key]
mutual
def siz:ApiValue→Int
 | ⟨_,_,_,l,_⟩=>sizs l 1
def sizs:List ApiValue→Int→Int
 | [],a=>a
 | x :: l,a=>sizs l (IntKind.i64.wrap (a+siz x))
end
theorem siz_eq (v:ApiValue):siz v=v.Items.foldl (fun a x=>IntKind.i64.wrap (a+siz x)) 1:=by
 have key:∀ (l:List ApiValue) (a:Int),sizs l a=l.foldl (fun a x=>IntKind.i64.wrap (a+siz x)) a:=by
  intro l
  induction l with
  | nil=>intro a;simp [sizs]
  | cons x l ih=>intro a;simp [sizs,ih]
 cases v;simp only [siz,key]
theorem DepthF_eq:∀ (n:Nat) (v:ApiValue),okApiValue v→hgt v≤n→value_DepthF n v=some (dep v):=by
 intro n
 induction n with
 | zero=>intro v hv hn;have:=hgt_eq v;omega
 | succ n ih =>
  intro v hv hn
  have hh:=hgt_eq v
  obtain ⟨k0,k1,k2,k3,k4⟩:=(okApiValue_iff v).1 hv
  have hi1:=fun (i:Nat) (hi:i<v.Items.length)=>ih _ (k3.2.2 _ (List.getElem_mem hi)) (by have:=hgts_ge (List.getElem_mem hi);omega)
  rw [value_DepthF,dep_eq]
  rw [loop_fold v.Items (fun a x=>if dep x > a then dep x else a) 0 (fun s i hi=>?_) (fun s=>?_),Option.bind_some]
  ·
   unfold value_Depth_l1
   rw [cond_d,if_pos (by simp only;omega),idx_ok hi,Option.bind_some,(hi1 i hi),Option.bind_some,w64s hi k3.1]
  ·
   unfold value_Depth_l1
   rw [cond_d,if_neg (by simp only;omega)]
theorem refDepthF_eq:∀ (n:Nat) (v:ApiValue),okApiValue v→hgt v≤n→ref02xDepthF n v=some (dep v):=by
 intro n
 induction n with
 | zero=>intro v hv hn;have:=hgt_eq v;omega
 | succ n ih =>
  intro v hv hn
  have hh:=hgt_eq v
  obtain ⟨k0,k1,k2,k3,k4⟩:=(okApiValue_iff v).1 hv
  have hi1:=fun (i:Nat) (hi:i<v.Items.length)=>ih _ (k3.2.2 _ (List.getElem_mem hi)) (by have:=hgts_ge (List.getElem_mem hi);omega)
  rw [ref02xDepthF,dep_eq]
  rw [loop_fold v.Items (fun a x=>if dep x > a then dep x else a) 0 (fun s i hi=>?_) (fun s=>?_),Option.bind_some]
  ·
   unfold ref02xDepth_l1
   rw [cond_d,if_pos (by simp only;omega),idx_ok hi,Option.bind_some,(hi1 i hi),Option.bind_some,w64s hi k3.1,cond_d]
   simp only
   by_cases h:s<dep v.Items[i]
   ·
    rw [if_pos h,if_pos h]
   ·
    rw [if_neg h,if_neg h]
  ·
   unfold ref02xDepth_l1
   rw [cond_d,if_neg (by simp only;omega)]
theorem value_Depth_eq {v:ApiValue} (hv:okApiValue v):value_Depth v=some (dep v):=lim_eq (hgt v) fun n hn=>DepthF_eq n v hv hn
theorem refDepth_eq {v:ApiValue} (hv:okApiValue v):ref02xDepth v=some (dep v):=lim_eq (hgt v) fun n hn=>refDepthF_eq n v hv hn
theorem SizeF_eq:∀ (n:Nat) (v:ApiValue),okApiValue v→hgt v≤n→value_SizeF n v=some (siz v):=by
 intro n
 induction n with
 | zero=>intro v hv hn;have:=hgt_eq v;omega
 | succ n ih =>
  intro v hv hn
  have hh:=hgt_eq v
  obtain ⟨k0,k1,k2,k3,k4⟩:=(okApiValue_iff v).1 hv
  have hi1:=fun (i:Nat) (hi:i<v.Items.length)=>ih _ (k3.2.2 _ (List.getElem_mem hi)) (by have:=hgts_ge (List.getElem_mem hi);omega)
  rw [value_SizeF,siz_eq]
  rw [loop_fold v.Items (fun a x=>IntKind.i64.wrap (a+siz x)) 1 (fun s i hi=>?_) (fun s=>?_),Option.bind_some]
  ·
   unfold value_Size_l1
   rw [cond_d,if_pos (by simp only;omega),idx_ok hi,Option.bind_some,(hi1 i hi),Option.bind_some,w64s hi k3.1]
  ·
   unfold value_Size_l1
   rw [cond_d,if_neg (by simp only;omega)]
theorem refSizeF_eq:∀ (n:Nat) (v:ApiValue),okApiValue v→hgt v≤n→ref02xSizeF n v=some (siz v):=by
 intro n
 induction n with
 | zero=>intro v hv hn;have:=hgt_eq v;omega
 | succ n ih =>
  intro v hv hn
  have hh:=hgt_eq v
  obtain ⟨k0,k1,k2,k3,k4⟩:=(okApiValue_iff v).1 hv
  have hi1:=fun (i:Nat) (hi:i<v.Items.length)=>ih _ (k3.2.2 _ (List.getElem_mem hi)) (by have:=hgts_ge (List.getElem_mem hi);omega)
  rw [ref02xSizeF,siz_eq]
  rw [loop_fold v.Items (fun a x=>IntKind.i64.wrap (a+siz x)) 1 (fun s i hi=>?_) (fun s=>?_),Option.bind_some]
  ·
   unfold ref02xSize_l1
   rw [cond_d,if_pos (by simp only;omega),idx_ok hi,Option.bind_some,(hi1 i hi),Option.bind_some,w64s hi k3.1]
  ·
   unfold ref02xSize_l1
   rw [cond_d,if_neg (by simp only;omega)]
theorem value_Size_eq {v:ApiValue} (hv:okApiValue v):value_Size v=some (siz v):=lim_eq (hgt v) fun n hn=>SizeF_eq n v hv hn
theorem refSize_eq {v:ApiValue} (hv:okApiValue v):ref02xSize v=some (siz v):=lim_eq (hgt v) fun n hn=>refSizeF_eq n v hv hn
end Go.Proofs.YtmbdbdhdcbdcpaaGreatDoor

/- Decimal numerals, plainly: the reference's digits, and reading them back. -/
import Derived.Test.YtmbdbdhdcbdcpaaGreatDoorGAPLoop
import Derived.Test.YtmbdbdhdcbdcpaaGreatDoorGAEvMono
import Derived.Test.YtmbdbdhdcbdcpaaGreatDoorGAPDig
import Derived.Test.YtmbdbdhdcbdcpaaGreatDoorGAPNm
import Derived.Test.YtmbdbdhdcbdcpaaGreatDoorGAF8
namespace Go.Proofs.YtmbdbdhdcbdcpaaGreatDoor
open Go Abs
set_option linter.unusedSimpArgs false
set_option linter.unusedVariables false
theorem digitsF_eq:∀ (n u:Nat),u<10 ^ (n+1)→u≤9223372036854775808→n≤30→ref03xdigitsF (n+1) (-(u:Int))=some (Lib.decDigits u):=by
 intro n
 induction n with
 | zero =>
  intro u h hb _
  have hu:u<10:=by omega
  rw [ref03xdigitsF]
  have e1:IntKind.u8.wrap (IntKind.i64.wrap (48+IntKind.i64.wrap (0 - (-(u:Int)).tmod 10)))=((48+u:Nat):Int):=by
   have:(-(u:Int)).tmod 10=-(u:Int):=by rw [Int.neg_tmod,Int.tmod_eq_emod_of_nonneg (by omega)];omega
   rw [this,IntKind.wrap_u8,IntKind.wrap_i64,IntKind.wrap_i64];omega
  rw [e1,byteOf_u (by omega),Option.bind_some,cond_d,if_pos (by omega),dec_lt hu]
 | succ n ih =>
  intro u h hb hn
  rw [ref03xdigitsF]
  have e1:IntKind.u8.wrap (IntKind.i64.wrap (48+IntKind.i64.wrap (0 - (-(u:Int)).tmod 10)))=((48+u % 10:Nat):Int):=by
   have:(-(u:Int)).tmod 10=-((u % 10:Nat):Int):=by rw [Int.neg_tmod,Int.tmod_eq_emod_of_nonneg (by omega)];omega
   rw [this,IntKind.wrap_u8,IntKind.wrap_i64,IntKind.wrap_i64];omega
  rw [e1,byteOf_u (by omega),Option.bind_some,cond_d]
  by_cases hu:u<10
  ·
   rw [if_pos (by omega),dec_lt hu,Nat.mod_eq_of_lt hu]
  ·
   rw [if_neg (by omega)]
   have e2:IntKind.i64.wrap ((-(u:Int)).tdiv 10)=-((u / 10:Nat):Int):=by
    have:(-(u:Int)).tdiv 10=-((u / 10:Nat):Int):=by rw [Int.neg_tdiv,Int.tdiv_eq_ediv_of_nonneg (by omega)];omega
    rw [this,w64 (by omega) (by omega)]
   have hl:=dec_len n (u / 10) (by rw [Nat.pow_succ] at h;omega)
   rw [e2,ih (u / 10) (by rw [Nat.pow_succ] at h;omega) (by omega) (by omega),Option.bind_some,cat_ok (by simp;omega),Option.bind_some,dec_ge hu]
theorem digits_eq {u:Nat} (h:u≤9223372036854775808):ref03xdigits (-(u:Int))=some (Lib.decDigits u):=ref03xdigits_lim (digitsF_eq 19 u (by omega) h (by omega))
theorem ref06Run_eq {n:Int} (h:okI n):ref06xRun n=some (runS n):=by
 unfold ref06xRun runS
 rw [cond_d]
 by_cases h1:n<1
 ·
  rw [if_pos h1,if_pos h1]
 ·
  rw [if_neg h1,if_neg h1]
  obtain ⟨h2,h3⟩:=h
  unfold ref03xDecimal
  obtain ⟨u,rfl⟩:∃ u:Nat,n=(u:Int):=⟨n.toNat,by omega⟩
  rw [cond_d,if_neg (by omega),show (0:Int) - (u:Int)=-(u:Int) by omega,w64 (by omega) (by omega),digits_eq (by omega),Option.bind_some,Option.bind_some]
  have hl:=dec_len 18 u (by omega)
  rw [cat_ok (by simp;omega),Option.bind_some,Lib.itoa_nonneg];rfl
def rdS (a:Nat) (c:UInt8):Nat:=10*a+(c.toNat - 48)
def rd (a:Nat) (l:List UInt8):Nat:=l.foldl rdS a
theorem rd_cons (c:UInt8) (l:List UInt8) (a:Nat):rd a (c :: l)=rd (rdS a c) l:=List.foldl_cons ..
theorem rd_nil (a:Nat):rd a []=a:=List.foldl_nil ..
theorem rd_append (l m:List UInt8) (a:Nat):rd a (l++m)=rd (rd a l) m:=List.foldl_append ..
theorem rdS_ge (a:Nat) (c:UInt8):a≤rdS a c:=by unfold rdS;omega
theorem rd_ge:∀ (l:List UInt8) (a:Nat),a≤rd a l
 | [],a=>by rw [rd_nil];exact Nat.le_refl a
 | c :: l,a=>by rw [rd_cons];exact Nat.le_trans (rdS_ge a c) (rd_ge l (rdS a c))
def dig (c:UInt8):Prop:=48≤c.toNat∧c.toNat≤57
theorem dig_of {u:Nat} (h:u<10):dig (UInt8.ofNat (48+u))∧(UInt8.ofNat (48+u)).toNat - 48=u:=by
 have:(UInt8.ofNat (48+u)).toNat=48+u:=by simp;omega
 unfold dig;omega
theorem rd_dec:∀ u,rd 0 (Lib.decDigits u)=u∧∀ c∈Lib.decDigits u,dig c:=by
 intro u
 induction u using Nat.strongRecOn with
 | _ u ih =>
  by_cases h:u<10
  ·
   obtain ⟨h1,h2⟩:=dig_of h
   rw [dec_lt h,rd_cons,rd_nil]
   refine ⟨?_,by simp only [List.mem_singleton];rintro c rfl;exact h1⟩
   unfold rdS
   omega
  ·
   obtain ⟨h1,h2⟩:=dig_of (u:=u % 10) (by omega)
   obtain ⟨i1,i2⟩:=ih (u / 10) (by omega)
   rw [dec_ge h,rd_append,i1,rd_cons,rd_nil]
   refine ⟨?_,?_⟩
   ·
    unfold rdS
    omega
   ·
    intro c hc
    rcases List.mem_append.1 hc with hc | hc
    ·
     exact i2 c hc
    ·
     rw [List.mem_singleton.1 hc];exact h1
theorem dec_ne (u:Nat):Lib.decDigits u≠[]:=by
 by_cases h:u<10
 ·
  rw [dec_lt h];simp
 ·
  rw [dec_ge h];simp
theorem parse_rd:∀ (l:List UInt8) (a:Nat),(∀ c∈l,dig c)→rd a l<18446744073709551616→Lib.parseUint10 a l=.ok (rd a l):=by
 intro l
 induction l with
 | nil=>intro a _ _;rw [rd_nil,Lib.parseUint10]
 | cons c l ih =>
  intro a hd hr
  have hc:=hd c (by simp)
  have hge:=rd_ge l (rdS a c)
  rw [rd_cons] at hr ⊢
  unfold dig at hc
  have hs:rdS a c=10*a+(c.toNat - 48):=rfl
  rw [Lib.parseUint10,if_pos hc,if_neg (by omega),Nat.mul_comm a 10,if_neg (by omega),← hs]
  exact ih _ (fun x hx=>hd x (by simp [hx])) hr
theorem atoi_dec {u:Nat} (h:u≤9223372036854775807):Lib.atoiAll (Lib.decDigits u)=.ok (u:Int):=by
 obtain ⟨h1,h2⟩:=rd_dec u
 have hp:=parse_rd (Lib.decDigits u) 0 h2 (by omega)
 rw [h1] at hp
 have hne:=dec_ne u
 generalize Lib.decDigits u=l at *
 cases l with
 | nil=>exact absurd rfl hne
 | cons c r =>
  have hc:=h2 c (by simp)
  unfold dig at hc
  unfold Lib.atoiAll
  simp only
  rw [if_neg (by omega)]
  unfold Lib.parseMag
  rw [if_neg (by simp),hp]
  simp only
  rw [if_neg (by omega),if_neg (by omega),if_neg (by omega)]
theorem runS_pos {v:Int} (h:1≤v):runS v=114 :: Lib.decDigits v.toNat:=by
 unfold runS
 rw [if_neg (by omega)]
 obtain ⟨u,rfl⟩:∃ u:Nat,v=(u:Int):=⟨v.toNat,by omega⟩
 rw [Lib.itoa_nonneg];rfl
theorem numberS_run {v:Int} (h1:1≤v) (h2:v≤9223372036854775807):numberS (runS v)=(v,true):=by
 unfold numberS
 have hr:=runS_pos h1
 have hp:Lib.hasPrefix (runS v) [114]=true:=by rw [hr];simp [Lib.hasPrefix]
 have ht:Lib.trimPrefix (runS v) [114]=Lib.decDigits v.toNat:=by unfold Lib.trimPrefix;rw [if_pos hp,hr];rfl
 rw [if_pos hp,ht,atoi_dec (by omega)]
 simp only
 rw [show ((v.toNat:Nat):Int)=v by omega,if_pos ⟨rfl,h1⟩]
theorem numberS_iff (s:List UInt8):(∃ v:Int,1≤v∧v≤9223372036854775807∧runS v=s∧numberS s=(v,true))∨((∀ v:Int,1≤v→v≤9223372036854775807→runS v≠s)∧numberS s=(0,false)):=by
 by_cases h:∃ v:Int,1≤v∧v≤9223372036854775807∧runS v=s
 ·
  obtain ⟨v,h1,h2,rfl⟩:=h
  exact .inl ⟨v,h1,h2,rfl,numberS_run h1 h2⟩
 ·
  refine .inr ⟨fun v h1 h2 h3=>h ⟨v,h1,h2,h3⟩,?_⟩
  unfold numberS
  split
  ·
   split
   ·
    rename_i v hv
    have hb:=atoi_i64 hv
    rw [if_neg fun hh=>h ⟨v,hh.2,hb.2,hh.1⟩]
   ·
    rfl
  ·
   rfl
theorem em64 {x:Int} (h1:-9223372036854775808≤x) (h2:x≤9223372036854775807):(x+9223372036854775808) % 18446744073709551616 - 9223372036854775808=x:=by omega
theorem em64b {x:Int} (h1:-9223372036854775808≤x - 48) (h2:x - 48≤9223372036854775807):((x+9223372036854775808) % 18446744073709551616 - 9223372036854775808 - 48+9223372036854775808) % 18446744073709551616 - 9223372036854775808=x - 48:=by omega
theorem rd_take1 (c:UInt8) (l:List UInt8):rd 0 (((c :: l).take 1).drop 1)=0:=by
 rw [List.take_succ_cons,List.take_zero,List.drop_succ_cons,List.drop_zero,rd_nil]
theorem drop1 (c:UInt8) (l:List UInt8):(c :: l).drop 1=l:=by rw [List.drop_succ_cons,List.drop_zero]
theorem refNumber_loop {s:List UInt8} (h:s.length≤140737488355328):∃ x,loopO (ref06xNumber_l1 s) ((0:Int),(1:Int))=some x∧okI x∧∀ u:Nat,1≤u→u≤9223372036854775807→s=114 :: Lib.decDigits u→x=(u:Int):=by
 refine loop_ex (fun t=>∃ i:Nat,t.2=(i:Int)∧1≤i∧okI t.1∧∀ u:Nat,1≤u→u≤9223372036854775807→s=114 :: Lib.decDigits u→i≤s.length∧t.1=(rd 0 ((s.take i).drop 1):Int)) (fun t=>s.length - t.2.toNat) _ ?_ _ ⟨1,rfl,by omega,by simp [okI],fun u _ _ hs=>⟨by rw [hs,List.length_cons];omega,by rw [hs,rd_take1];rfl⟩⟩
 rintro ⟨x,i0⟩ ⟨i,hi0,h1,hx,hu⟩
 simp only at hi0 hx hu
 subst hi0
 unfold ref06xNumber_l1
 by_cases hc:i<s.length∧s.length≤20
 ·
  have e:(cond (decide ((i:Int)<(s.length:Int))) (decide ((s.length:Int)≤20)) false)=true:=by
   have a1:(i:Int)<s.length:=by omega
   have a2:(s.length:Int)≤20:=by omega
   simp [a1,a2]
  simp only
  rw [e,cond_true,idx_ok hc.1,Option.bind_some,w64s hc.1 (by omega)]
  refine .inl ⟨_,rfl,⟨i+1,rfl,by omega,?_,fun u hu1 hu2 hs=>⟨hc.1,?_⟩⟩,by simp;omega⟩
  ·
   simp only [okI,IntKind.wrap_i64];omega
  ·
   obtain ⟨hi,hxe⟩:=hu u hu1 hu2 hs
   simp only
   have hr:=rd_dec u
   have hsplit:(s.take (i+1)).drop 1=(s.take i).drop 1++[s[i]]:=by
    rw [List.take_succ_eq_append_getElem hc.1,List.drop_append_of_le_length (by simp;omega)]
   have hd:dig s[i]:=by
    refine hr.2 _ ?_
    have:s.drop 1=Lib.decDigits u:=by rw [hs,drop1]
    rw [← this]
    have:s[i]=(s.drop 1)[i - 1]'(by simp;omega):=by simp only [List.getElem_drop];congr 1;omega
    rw [this];exact List.getElem_mem _
   have hle:rd 0 ((s.take (i+1)).drop 1)≤u:=by
    have h2:s.drop 1=(s.take (i+1)).drop 1++s.drop (i+1):=by
     conv=>lhs;rw [← List.take_append_drop (i+1) s,List.drop_append_of_le_length (by simp;omega)]
    have h3:rd 0 (s.drop 1)=u:=by rw [hs,drop1];exact hr.1
    rw [h2,rd_append] at h3
    have:=rd_ge (s.drop (i+1)) (rd 0 ((s.take (i+1)).drop 1))
    omega
   rw [hsplit,rd_append] at hle ⊢
   rw [rd_cons,rd_nil] at hle ⊢
   unfold dig at hd
   have hs:rdS (rd 0 ((s.take i).drop 1)) s[i]=10*rd 0 ((s.take i).drop 1)+(s[i].toNat - 48):=rfl
   rw [hs] at hle ⊢
   rw [hxe]
   generalize rd 0 ((s.take i).drop 1)=R at *
   generalize s[i]=c at *
   clear hs hsplit
   simp only [IntKind.wrap_i64]
   generalize c.toNat=d at *
   rw [em64 (x:=10*(R:Int)) (by omega) (by omega),em64 (x:=(d:Int)) (by omega) (by omega),em64b (x:=10*(R:Int)+(d:Int)) (by omega) (by omega)]
   omega
 ·
  have e:(cond (decide ((i:Int)<(s.length:Int))) (decide ((s.length:Int)≤20)) false)=false:=by
   by_cases a1:(i:Int)<s.length
   ·
    have a2:¬(s.length:Int)≤20:=by omega
    simp [a1,a2]
   ·
    simp [a1]
  simp only
  rw [e,cond_false]
  refine .inr ⟨x,rfl,hx,fun u hu1 hu2 hs=>?_⟩
  obtain ⟨hi,hxe⟩:=hu u hu1 hu2 hs
  have hl:=dec_len 18 u (by omega)
  have hsl:s.length=(Lib.decDigits u).length+1:=by rw [hs,List.length_cons]
  have:i=s.length:=by omega
  rw [hxe,this,List.take_length]
  have h3:s.drop 1=Lib.decDigits u:=by rw [hs,drop1]
  rw [h3,(rd_dec u).1]
theorem refNumber_eq {s:List UInt8} (h:s.length≤140737488355328):ref06xNumber s=some (numberS s):=by
 obtain ⟨x,hx,hok,hu⟩:=refNumber_loop h
 unfold ref06xNumber
 rw [hx,Option.bind_some]
 rcases numberS_iff s with ⟨v,h1,h2,h3,h4⟩ | ⟨h3,h4⟩
 ·
  have hxv:x=v:=by
   have:=hu v.toNat (by omega) (by omega) (by rw [← h3,runS_pos h1])
   omega
  subst hxv
  rw [ref06Run_eq hok,h4,h3]
  have:¬x<1:=by omega
  simp [this,gd]
 ·
  rw [ref06Run_eq hok,h4]
  by_cases h5:x<1
  ·
   simp [h5,gd]
  ·
   have:=h3 x (by omega) hok.2
   simp [h5,gd,this]
end Go.Proofs.YtmbdbdhdcbdcpaaGreatDoor

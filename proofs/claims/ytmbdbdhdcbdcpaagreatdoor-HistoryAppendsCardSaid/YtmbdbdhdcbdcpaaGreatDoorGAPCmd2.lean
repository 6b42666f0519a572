/- Commands, plainly: command.Right is its reference. -/
import Derived.Test.YtmbdbdhdcbdcpaaGreatDoorGAPCmd1
import Derived.Test.YtmbdbdhdcbdcpaaGreatDoorGAF1
import Derived.Test.YtmbdbdhdcbdcpaaGreatDoorGAF2
import Derived.Test.YtmbdbdhdcbdcpaaGreatDoorGAF6
import Derived.Test.YtmbdbdhdcbdcpaaGreatDoorGAF7
namespace Go.Proofs.YtmbdbdhdcbdcpaaGreatDoor
open Go Abs
set_option linter.unusedSimpArgs false
set_option linter.unusedVariables false
def zeroV:ApiValue:=⟨0,0,[],[],[]⟩
def zeroP:ApiPolicy:=⟨[],0,0,0,0,0,0,0,0,[]⟩
theorem ok_zeroV:okApiValue zeroV:=by
 refine (okApiValue_iff _).2 ⟨?_,?_,?_,?_,?_⟩ <;> simp [zeroV,okI,okS,okLs]
def usesOf (k:Int):CommandUses :=
 if k=1 then ⟨true,true,false,false,true,true⟩
 else if k=2 then ⟨true,false,false,false,false,false⟩
 else if k=3 then ⟨true,false,false,true,false,false⟩
 else if k=4 then ⟨true,false,false,false,false,false⟩
 else if k=5 then ⟨true,true,true,true,true,false⟩
 else if k=6 then ⟨true,true,true,false,true,false⟩
 else if k=7 then ⟨false,true,false,true,true,false⟩
 else if k=8 then ⟨false,true,true,false,true,false⟩
 else if k=9 then ⟨false,false,true,true,true,false⟩
 else if k=12 then ⟨false,true,false,false,true,false⟩
 else ⟨false,false,false,false,true,false⟩
theorem fields_eq (k:Int):command_fields k=some (usesOf k):=by
 unfold command_fields usesOf
 by_cases h1:k=1
 ·
  simp [h1]
 by_cases h2:k=2
 ·
  simp [h2]
 by_cases h3:k=3
 ·
  simp [h3]
 by_cases h4:k=4
 ·
  simp [h4]
 by_cases h5:k=5
 ·
  simp [h5]
 by_cases h6:k=6
 ·
  simp [h6]
 by_cases h7:k=7
 ·
  simp [h7]
 by_cases h8:k=8
 ·
  simp [h8]
 by_cases h9:k=9
 ·
  simp [h9]
 by_cases h12:k=12
 ·
  simp [h12]
 simp [h1,h2,h3,h4,h5,h6,h7,h8,h9,h12]
def bareB (c:ApiCommand) (u:CommandUses):Bool :=
 (u.seq_||decide (c.Seq=0))&&(u.name_||decide (c.Name=[]))&&(u.key_||decide (c.Key=[]))&&(u.n_||decide (c.N=0))&&(u.data_||vsame c.Data zeroV)&&(u.opts_||psame c.Opts zeroP)
theorem bare_eq {c:ApiCommand}{u:CommandUses} (h:okApiCommand c):command_bare c u=some (bareB c u):=by
 unfold command_bare bareB
 have hd:okApiValue c.Data:=h.2.2.2.2.2.1
 have ho:okApiPolicy c.Opts:=h.2.2.2.2.2.2
 rw [show (ApiValue.mk 0 0 [] [] [])=zeroV from rfl,show (ApiPolicy.mk [] 0 0 0 0 0 0 0 0 [])=zeroP from rfl,value_Same_eq hd,SamePolicy_eq ho]
 cases u.seq_ <;> cases u.name_ <;> cases u.key_ <;> cases u.n_ <;> cases decide (c.Seq=0) <;> cases decide (c.Name=[]) <;> cases decide (c.Key=[]) <;> cases decide (c.N=0) <;> first | rfl | (cases u.data_ <;> cases u.opts_ <;> cases vsame c.Data zeroV <;> rfl)
def numB (c:ApiCommand):Bool :=
 if c.Kind=3 then inB c.N 1 1099511627776
 else if c.Kind=5 then inB c.N 0 2
 else if c.Kind=9 then inB c.N 0 1
 else if c.Kind=7 then decide (c.N=-1)||(inB c.N 0 2147483647&&decide (c.Data.Kind=0))
 else if c.Kind=10 then decide (c.Data.Kind=5)
 else if c.Kind=14 then inpB c.Data
 else true
theorem number_eq {c:ApiCommand} (h:okApiCommand c):command_number c=some (numB c):=by
 unfold command_number numB
 rw [input_eq h.2.2.2.2.2.1]
 simp only [command_in_eq,cond_d,Option.bind_some]
 by_cases h3:c.Kind=3
 ·
  simp only [h3,if_true]
 by_cases h5:c.Kind=5
 ·
  simp only [h5,if_true,Int.reduceEq,if_false]
 by_cases h9:c.Kind=9
 ·
  simp only [h9,if_true,Int.reduceEq,if_false]
 by_cases h7:c.Kind=7
 ·
  simp only [h7,if_true,Int.reduceEq,if_false]
  by_cases hn:c.N=-1
  ·
   simp [hn,gd]
  ·
   cases inB c.N 0 2147483647 <;> by_cases hk:c.Data.Kind=0 <;> simp [hn,hk,gd]
 by_cases h10:c.Kind=10
 ·
  simp only [h10,if_true,Int.reduceEq,if_false]
 by_cases h14:c.Kind=14
 ·
  simp only [h14,if_true,Int.reduceEq,if_false]
 simp only [h3,h5,h9,h7,h10,h14,if_false]
noncomputable def cright (c:ApiCommand):Bool :=
 inB c.Kind 1 14&&bareB c (usesOf c.Kind)&&vright c.Data&&pright c.Opts&&(!(usesOf c.Kind).seq_||inB c.Seq 1 2000)&&(!(usesOf c.Kind).key_||iright c.Key)
  && (!(usesOf c.Kind).name_||(if c.Kind=12 then !longS c.Name else nright c.Name))&&numB c
theorem command_Right_eq {c:ApiCommand} (h:okApiCommand c):command_Right c=some (cright c):=by
 have hd:okApiValue c.Data:=h.2.2.2.2.2.1
 have ho:okApiPolicy c.Opts:=h.2.2.2.2.2.2
 have hk:c.Key.length≤9223372036854775807:=Nat.le_trans h.2.2.2.1 (by decide)
 unfold command_Right cright
 rw [fields_eq,Option.bind_some]
 simp only [bare_eq h,value_Right_eq hd,RightPolicy_eq ho,ident_eq hk,name_Right_eq,number_eq h,command_in_eq,Option.bind_some]
 generalize usesOf c.Kind=u
 obtain ⟨useq,uname,ukey,un,udata,uopts⟩:=u
 simp only
 generalize bareB c _=b
 cases inB c.Kind 1 14
 ·
  simp [gd]
 cases b
 ·
  simp [gd]
 cases vright c.Data
 ·
  simp [gd]
 cases pright c.Opts
 ·
  simp [gd]
 simp only [Bool.not_true,cond_false,beq_self_eq_true,gd,if_true,Option.bind_some,Bool.true_and]
 have hl:decide ((4096:Int)<(c.Name.length:Int))=longS c.Name:=rfl
 rw [hl]
 by_cases h12:c.Kind=12
 ·
  simp only [h12,decide_true,Bool.not_true,cond_true,cond_false,if_true]
  cases useq <;> cases ukey <;> cases uname <;> cases inB c.Seq 1 2000 <;> cases iright c.Key <;> cases longS c.Name <;> cases numB c <;> rfl
 ·
  simp only [h12,decide_false,Bool.not_false,cond_true,cond_false,if_false]
  cases useq <;> cases ukey <;> cases uname <;> cases inB c.Seq 1 2000 <;> cases iright c.Key <;> cases nright c.Name <;> cases numB c <;> rfl
theorem pright_zero:pright zeroP=true:=by decide
theorem psame_zero {p:ApiPolicy} (h:psame p zeroP=true):p=zeroP:=by
 unfold psame at h
 simp only [Bool.and_eq_true,decide_eq_true_eq] at h
 obtain ⟨⟨⟨⟨⟨⟨⟨⟨⟨h1,h2⟩,h3⟩,h4⟩,h5⟩,h6⟩,h7⟩,h8⟩,h9⟩,h10⟩:=h
 cases p;simp_all [zeroP]
theorem vsame_refl (v:ApiValue):vsame v v=true:=(vsame_iff (hgt v) v v (Nat.le_refl _)).2 rfl
theorem psame_refl (p:ApiPolicy):psame p p=true:=by simp [psame]
theorem refSame20_eq {a b:ApiCommand} (hd:okApiValue a.Data) (ho:okApiPolicy a.Opts):ref20xSame a b=some (decide (a.Kind=b.Kind)&&decide (a.Seq=b.Seq)&&decide (a.Name=b.Name)&&decide (a.Key=b.Key)&&decide (a.N=b.N)&&vsame a.Data b.Data&&psame a.Opts b.Opts):=by
 unfold ref20xSame
 rw [refSame_eq hd,refSamePolicy_eq ho]
 cases decide (a.Kind=b.Kind) <;> cases decide (a.Seq=b.Seq) <;> cases decide (a.Name=b.Name) <;> cases decide (a.Key=b.Key) <;> cases decide (a.N=b.N) <;> first | rfl | (cases vsame a.Data b.Data <;> rfl)
def bareC (c:ApiCommand):ApiCommand :=
 ⟨c.Kind,if (usesOf c.Kind).seq_ then 0 else c.Seq,if (usesOf c.Kind).name_ then [] else c.Name,if (usesOf c.Kind).key_ then [] else c.Key,if (usesOf c.Kind).n_ then 0 else c.N,
  if (usesOf c.Kind).data_ then zeroV else c.Data,if (usesOf c.Kind).opts_ then zeroP else c.Opts⟩
theorem refbare_eq (c:ApiCommand):ref20xbare c=some (bareC c):=by
 unfold ref20xbare bareC usesOf
 obtain ⟨k,sq,nm,ky,n,d,o⟩:=c
 simp only
 by_cases h1:k=1
 ·
  subst h1;rfl
 by_cases h2:k=2
 ·
  subst h2;rfl
 by_cases h3:k=3
 ·
  subst h3;rfl
 by_cases h4:k=4
 ·
  subst h4;rfl
 by_cases h5:k=5
 ·
  subst h5;rfl
 by_cases h6:k=6
 ·
  subst h6;rfl
 by_cases h7:k=7
 ·
  subst h7;rfl
 by_cases h8:k=8
 ·
  subst h8;rfl
 by_cases h9:k=9
 ·
  subst h9;rfl
 by_cases h12:k=12
 ·
  subst h12;rfl
 simp [h1,h2,h3,h4,h5,h6,h7,h8,h9,h12,zeroV]
theorem ref20Right_eq {c:ApiCommand} (h:okApiCommand c):ref20xRight c=some (cright c):=by
 have hd:okApiValue c.Data:=h.2.2.2.2.2.1
 have ho:okApiPolicy c.Opts:=h.2.2.2.2.2.2
 unfold ref20xRight cright
 rw [refbare_eq,refRight02_eq hd,ref06Right_eq,refIdent_eq,refRightPolicy_eq ho,refInput_eq hd]
 have hb:ref20xSame (bareC c) ⟨c.Kind,0,[],[],0,zeroV,zeroP⟩=some (bareB c (usesOf c.Kind)):=by
  rw [refSame20_eq (by unfold bareC;simp only;split;exact ok_zeroV;exact hd) (by
   unfold bareC;simp only;split
   ·
    refine ⟨?_,?_,?_,?_,?_,?_,?_,?_,?_,?_⟩ <;> simp [zeroP,okI,okS,okLs]
   ·
    exact ho)]
  unfold bareC bareB
  generalize usesOf c.Kind=u
  obtain ⟨useq,uname,ukey,un,udata,uopts⟩:=u
  have z1:=vsame_refl zeroV
  have z2:=psame_refl zeroP
  cases useq <;> cases uname <;> cases ukey <;> cases un <;> cases udata <;> cases uopts <;> simp [z1,z2]
 simp only [ref20in_eq,Option.bind_some]
 cases hin:inB c.Kind 1 14
 ·
  simp [gd]
 rw [show (ApiCommand.mk c.Kind 0 [] [] 0 ⟨0,0,[],[],[]⟩ ⟨[],0,0,0,0,0,0,0,0,[]⟩)=⟨c.Kind,0,[],[],0,zeroV,zeroP⟩ from rfl]
 simp only [Bool.not_true,beq_self_eq_true,gd,if_true,Option.bind_some,hb,cond_false,Bool.true_and]
 cases hbb:bareB c (usesOf c.Kind)
 ·
  simp [gd]
 simp only [Bool.not_true,beq_self_eq_true,gd,if_true,Option.bind_some,cond_false,Bool.true_and]
 cases vright c.Data
 ·
  simp
 simp only [Bool.not_true,cond_false,Bool.true_and]
 have hop:(usesOf c.Kind).opts_=true∨pright c.Opts=true:=by
  cases hu:(usesOf c.Kind).opts_
  ·
   refine .inr ?_
   unfold bareB at hbb
   rw [hu] at hbb
   simp only [Bool.and_eq_true,Bool.false_or] at hbb
   rw [psame_zero hbb.2,pright_zero]
  ·
   exact .inl rfl
 have hl:decide ((c.Name.length:Int)≤4096)=!longS c.Name:=by unfold longS;rw [Bool.eq_iff_iff];simp
 rw [hl]
 unfold numB
 clear hb hbb hin h hd ho hl
 obtain ⟨k,sq,nm,ky,n,d,o⟩:=c
 simp only at hop ⊢
 generalize inB sq 1 2000=b1
 generalize nright nm=b2
 generalize iright ky=b3
 generalize pright o=b4 at *
 generalize longS nm=b5
 generalize inpB d=b6
 by_cases h1:k=1
 ·
  subst h1
  cases b1 <;> cases b2 <;> cases b4 <;> rfl
 by_cases h2:k=2
 ·
  subst h2
  obtain rfl:b4=true:=by simpa [usesOf] using hop
  cases b1 <;> rfl
 by_cases h3:k=3
 ·
  subst h3
  obtain rfl:b4=true:=by simpa [usesOf] using hop
  cases b1 <;> simp [usesOf]
 by_cases h4:k=4
 ·
  subst h4
  obtain rfl:b4=true:=by simpa [usesOf] using hop
  cases b1 <;> rfl
 by_cases h5:k=5
 ·
  subst h5
  obtain rfl:b4=true:=by simpa [usesOf] using hop
  cases b1 <;> cases b2 <;> cases b3 <;> simp [usesOf]
 by_cases h6:k=6
 ·
  subst h6
  obtain rfl:b4=true:=by simpa [usesOf] using hop
  cases b1 <;> cases b2 <;> cases b3 <;> rfl
 by_cases h7:k=7
 ·
  subst h7
  obtain rfl:b4=true:=by simpa [usesOf] using hop
  by_cases hn:n=-1
  ·
   cases b2 <;> simp [usesOf,hn]
  ·
   cases b2 <;> cases inB n 0 2147483647 <;> by_cases hk:d.Kind=0 <;> simp [usesOf,hn,hk]
 by_cases h8:k=8
 ·
  subst h8
  obtain rfl:b4=true:=by simpa [usesOf] using hop
  cases b2 <;> cases b3 <;> rfl
 by_cases h9:k=9
 ·
  subst h9
  obtain rfl:b4=true:=by simpa [usesOf] using hop
  cases b3 <;> simp [usesOf]
 by_cases h10:k=10
 ·
  subst h10
  obtain rfl:b4=true:=by simpa [usesOf] using hop
  simp [usesOf]
 by_cases h12:k=12
 ·
  subst h12
  obtain rfl:b4=true:=by simpa [usesOf] using hop
  simp [usesOf]
 by_cases h14:k=14
 ·
  subst h14
  obtain rfl:b4=true:=by simpa [usesOf] using hop
  simp [usesOf]
 ·
  have:b4=true:=by simpa [usesOf,h1,h2,h3,h4,h5,h6,h7,h8,h9,h10,h12,h14] using hop
  subst this
  simp [usesOf,h1,h2,h3,h4,h5,h6,h7,h8,h9,h10,h12,h14]
end Go.Proofs.YtmbdbdhdcbdcpaaGreatDoor

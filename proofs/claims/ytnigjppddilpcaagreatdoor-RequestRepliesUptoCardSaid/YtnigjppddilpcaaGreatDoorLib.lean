/- The listed variables, and calls into the library that are walked here. -/
import Derived.Test.YtnigjppddilpcaaGreatDoorShelf
import Derived.Test.YtnigjppddilpcaaGreatDoorAbs29
import Derived.Lib.AtoiErrMem
import Derived.Lib.AppendIntMem
import Derived.Lib.ItoaLen
namespace Go.Proofs.YtnigjppddilpcaaGreatDoor
open Go Abs RowKit
set_option maxRecDepth 100000
set_option linter.unusedVariables false
set_option linter.unusedSimpArgs false
theorem aUG:Tryz.prog.globalNamed "strconv.ErrSyntax"=some 0:=by kernel_rfl
theorem aUF:Tryz.prog.globalNamed "strconv.ErrRange"=some 1:=by kernel_rfl
theorem aUE:Tryz.prog.globalNamed "internal/strconv.uint64pow10"=some 3:=by kernel_rfl
theorem aTe {I:Nat→Nat→Prop}{w:World} (h:Glo I w):∃ t p,w.var? Tryz.prog "strconv.ErrSyntax"=some #[.iface t p]:=by
 obtain ⟨cs,h1,t,p,rfl⟩:=aL2 h (.head _) aUG
 exact ⟨t,p,h1⟩
theorem aTd {I:Nat→Nat→Prop}{w:World} (h:Glo I w):∃ t p,w.var? Tryz.prog "strconv.ErrRange"=some #[.iface t p]:=by
 obtain ⟨cs,h1,t,p,rfl⟩:=aL2 h (.tail _ (.head _)) aUF
 exact ⟨t,p,h1⟩
theorem aTf {I:Nat→Nat→Prop}{w:World} (h:Glo I w):Lib.TabIs Tryz.prog w "internal/strconv.uint64pow10" .u64 Lib.pow10Tab:=by
 obtain ⟨cs,h1,h2⟩:=aL2 h (.tail _ (.tail _ (.head _))) aUE
 unfold Lib.TabIs
 rw [h1,h2]
 rfl
theorem aQI {I:Nat→Nat→Prop}{w w':World} (hI:∀ b o,I b o→b<w.heap.size) (h:Glo I w) (hb:Below w.heap.size w w'):Glo I w' :=
 h.mono (fun _ _ h=>h) fun b o ho=>by simp [World.cell?,hb.block b (hI b o ho)]
theorem aSw {g:G}{w:World}{u v:Value}{a b:AV} (h1:nA g w u a) (h2:nA g w v b):nA g w (.tuple #[u,v]) (.tup [a,b]) :=
 .tup _ _ rfl fun i x y hx hy=>by
  match i with
  | 0=>simp at hx hy;subst hx hy;exact h1
  | 1=>simp at hx hy;subst hx hy;exact h2
  | i+2=>simp at hx
def aEa (n:Int):List UInt8:=if n<1 then [] else 114 :: Lib.itoa n
def vI (s:List UInt8):Int × Bool:=if Lib.hasPrefix s [114] then (match Lib.atoiAll (Lib.trimPrefix s [114]) with
 | .ok v=>if aEa v=s∧1≤v then (v,true) else (0,false)
 | _=>(0,false)) else (0,false)
theorem aQY (n:Int) (h0:-9223372036854775808≤n) (h1:n≤9223372036854775807) (w:World) (htab:Lib.TabIs Tryz.prog w "internal/strconv.uint64pow10" .u64 Lib.pow10Tab) :
  Calls Tryz.prog 196 #[.int .i64 n] w fun e w'=>e=.returned (.string ⟨(aEa n).toArray⟩)∧Below w.heap.size w w':=by
 unfold aEa
 go_enter Tryz.func196,Tryz.ntmps196
 go_wp2_with (go_at_call 213;refine (Tryz.strconv_Itoa n h0 h1 _ ?_).mono ?_)
 ·
  rename_i h
  go_ret
  exact ⟨by simp [h],Below.refl _ _⟩
 ·
  exact htab
 ·
  rintro e W1 ⟨rfl,k,os,rfl⟩
  have hlen:=Lib.itoa_length_le n h0 h1
  go_wp2
  go_ret
  refine ⟨?_,Lib.below_grow _ _ (eP _) k os⟩
  show Ending.returned (Value.string (⟨#[114]⟩++⟨(Lib.itoa n).toArray⟩))=_
  rw [show (⟨#[114]⟩++⟨(Lib.itoa n).toArray⟩:ByteArray)=⟨(114 :: Lib.itoa n).toArray⟩ from ByteArray.ext (by simp)]
theorem aMT {l:List UInt8}{v:Int} (h:Lib.atoiAll l=.ok v):-9223372036854775808≤v∧v≤9223372036854775807:=by
 unfold Lib.atoiAll at h
 split at h
 ·
  cases h
 ·
  simp only at h
  split at h
  ·
   cases h
  ·
   cases h
  ·
   split at h
   ·
    cases h
   ·
    split at h
    ·
     cases h
    ·
     cases h
     split <;> omega
theorem aL4 {s:List UInt8} (hl:s.length≤140737488355328) {g:G} (w:World) (hI:∀ b o,g.I b o→b<w.heap.size) (hg:Glo g.I w) :
  Calls Tryz.prog 161 #[.string ⟨s.toArray⟩] w fun e w'=>e=.returned (.tuple #[.int .i64 (vI s).1,.bool (vI s).2])∧Below w.heap.size w w':=by
 have hsz:(⟨s.toArray⟩:ByteArray).size=s.length:=rfl
 unfold vI
 by_cases hp:Lib.hasPrefix s [114]=true
 ·
  rw [bB hp]
  have hdl:(Lib.trimPrefix s [114]).length≤s.length:=by
   unfold Lib.trimPrefix;split <;> simp
  have hz:(⟨(Lib.trimPrefix s [114]).toArray⟩:ByteArray).size≤281474976710656:=by show (Lib.trimPrefix s [114]).length≤_;omega
  cases ha:Lib.atoiAll (Lib.trimPrefix s [114]) with
  | ok v =>
   go_enter Tryz.func161,Tryz.ntmps161
   have hv:=aMT ha
   go_wp2_with (first
    | (go_at_call 194;refine (Tryz.strings_CutPrefix _ _ _).mono ?_;rintro e w' ⟨rfl,hw'⟩;obtain rfl:=hw'.symm)
    | (go_at_call 195;refine (Tryz.strconv_Atoi_ok _ ?_ v ha _).mono ?_))
   ·
    show (Lib.trimPrefix s [114]).length≤_;omega
   ·
    rintro e W1 ⟨rfl,hw⟩
    have hb1:Below w.heap.size w W1:=by
     rcases hw with rfl | ⟨t,rfl⟩
     ·
      exact Below.refl _ _
     ·
      exact Lib.bytesWorld_below _ _ _
    have hg1:=aQI hI hg hb1
    clear hw
    go_wp2_with (go_at_call 196;refine (aQY v hv.1 hv.2 _ ?_).mono ?_)
    ·
     exact aTf hg1
    ·
     rintro e W2 ⟨rfl,hb2⟩
     have hb:Below w.heap.size w W2:=hb1.trans (hb2.mono hb1.size)
     clear hb2
     go_wp2
     all_goals first
      | (go_ret2;exact ⟨rfl,hb⟩)
      | (exfalso;exact absurd ⟨‹aEa v=s›,‹1≤v›⟩ ‹¬(aEa v=s∧1≤v)›)
      | (exfalso;exact absurd (‹aEa v=s∧1≤v›).1 ‹¬aEa v=s›)
      | (exfalso;have:=(‹aEa v=s∧1≤v›).2;omega)
  | range =>
   obtain ⟨te,pe,hvar⟩:=aTd hg
   go_enter Tryz.func161,Tryz.ntmps161
   go_wp2_with (first
    | (go_at_call 194;refine (Tryz.strings_CutPrefix _ _ _).mono ?_;rintro e w' ⟨rfl,hw'⟩;obtain rfl:=hw'.symm)
    | (go_at_call 195;refine (Tryz.strconv_Atoi_range_var _ hz ha te pe _ hvar).mono ?_;rintro e W1 ⟨k,rfl,-,-,hb⟩))
   all_goals first
    | (go_ret2;exact ⟨rfl,hb⟩)
  | _ =>
   have ha2:(∀ v,Lib.atoiAll (Lib.trimPrefix s [114])≠.ok v)∧Lib.atoiAll (Lib.trimPrefix s [114])≠.range:=⟨fun v e=>(by rw [ha] at e;cases e),fun e=>(by rw [ha] at e;cases e)⟩
   obtain ⟨te,pe,hvar⟩:=aTe hg
   go_enter Tryz.func161,Tryz.ntmps161
   go_wp2_with (first
    | (go_at_call 194;refine (Tryz.strings_CutPrefix _ _ _).mono ?_;rintro e w' ⟨rfl,hw'⟩;obtain rfl:=hw'.symm)
    | (go_at_call 195;refine (Tryz.strconv_Atoi_syntax_var _ hz ha2 te pe _ hvar).mono ?_;rintro e W1 ⟨k,rfl,-,-,hb⟩))
   all_goals first
    | (go_ret2;exact ⟨rfl,hb⟩)
 ·
  rw [aY hp]
  go_enter Tryz.func161,Tryz.ntmps161
  go_wp2_with (go_at_call 194;refine (Tryz.strings_CutPrefix _ _ _).mono ?_;rintro e w' ⟨rfl,hw'⟩;obtain rfl:=hw'.symm)
  all_goals first
   | (go_ret2;exact ⟨rfl,Below.refl _ _⟩)

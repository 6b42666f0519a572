/- The listed variables hold what the walks lean on: out of the row's own condition. -/
import Derived.Test.YtnigjppddilpcaaGreatDoorRows
import Derived.Test.YtnigjppddilpcaaGreatDoorLib
import Derived.Stop.LaidErr
import Derived.Lib.LaidTab
import Derived.LaidMore
import Derived.ProofKit
import Derived.Stop.Joined
namespace Go.Proofs.YtnigjppddilpcaaGreatDoor
open Go Abs
set_option maxRecDepth 100000
set_option linter.unusedVariables false
def aNl:List (String × DataW Unit):=[("math/bits.deBruijn32tab",Rows.laid_math_bits_deBruijn32tab),("math/bits.deBruijn64tab",Rows.laid_math_bits_deBruijn64tab),("internal/strconv.uint64pow10",Rows.laid_internal_strconv_uint64pow10),("strconv.ErrRange",Rows.laid_strconv_ErrRange),("strconv.ErrSyntax",Rows.laid_strconv_ErrSyntax)]
theorem aL1 {W:World}{n:String}{k:Nat}{cs:Array Value}{p:Array Value→Prop} (hn:Tryz.prog.globalNamed n=some k) (hv:W.var? Tryz.prog n=some cs) (h0:0<cs.size) (hp:p cs):(∀ o,old W k o)∧∃ cs e l,W.heap[k]?=some (.cells cs e l)∧0<cs.size∧p cs:=by
 unfold World.var? at hv
 rw [hn,aA] at hv
 split at hv
 ·
  rename_i cs2 e l hb
  cases hv
  exact ⟨fun o=>(kF.1 hb).1,_,_,_,hb,h0,hp⟩
 ·
  cases hv
theorem aVJ:"*"++"errors.errorString"="*errors.errorString":=by decide
theorem aSA (u:TypeId) (h:Tryz.prog.typeName? 3 u=some "*errors.errorString"):u=203 :=
 typeName_ptr_named (nm:="errors.errorString") (by rw [aVJ];kernel_rfl) (by kernel_rfl) (by decide) u (by rw [aVJ];exact h)
theorem aRY {W:World} (h:laidMet Tryz.prog aNl W):Glo (old W) W:=by
 have h0:=h
 have h1:=h0.tail
 have h2:=h1.tail
 have h3:=h2.tail
 have h4:=h3.tail
 have e:(Rows.laid_internal_strconv_uint64pow10:DataW Unit)=Lib.tabData .u64 Lib.pow10Tab:=by kernel_rfl
 rw [e] at h2
 have tp:Lib.TabIs Tryz.prog W "internal/strconv.uint64pow10" .u64 Lib.pow10Tab:=Lib.tabIs_of_head aUE (by kernel_rfl) Tryz.underlying214 Tryz.underlying131 (by kernel_rfl) (by kernel_rfl) h2
 obtain ⟨ads,sts,vs,-,-,-⟩:=laid_sentinel h4 aUG (by kernel_rfl) Tryz.underlying177 aSA Tryz.underlying203 Tryz.underlying205 rfl rfl Tryz.underlying9 (by kernel_rfl) (by kernel_rfl)
 obtain ⟨adr,str,vr,-,-,-⟩:=laid_sentinel h3 aUF (by kernel_rfl) Tryz.underlying177 aSA Tryz.underlying203 Tryz.underlying205 rfl rfl Tryz.underlying9 (by kernel_rfl) (by kernel_rfl)
 intro x hx
 simp only [aRZ,eT,rE,or_false] at hx
 rcases hx with rfl | rfl | rfl
 ·
  exact aL1 aUG vs (by simp) ⟨_,_,rfl⟩
 ·
  exact aL1 aUF vr (by simp) ⟨_,_,rfl⟩
 ·
  exact aL1 aUE tp (by decide) rfl
theorem aO1 {W:World} (h:laidMetH Tryz.prog aNl W):laidMet Tryz.prog aNl W:=by
 rw [MakeChecks.laidMetH_plain _ _ _ (by kernel_rfl)] at h
 exact h
theorem aRM (os:Os) (args:Array Value):laidMetH Tryz.prog aNl ((World.doorLaid Tryz.prog 400 os).forCall (fun _ _=>0) ⟨#[],args,[]⟩).memory :=
 laidMetH_of_parts3 (fuel:=8) (laidMet_of_run' 8 (by kernel_rfl) (by kernel_rfl)) (by kernel_rfl) (by kernel_rfl)

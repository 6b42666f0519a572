/- More fuel gives no less. -/
import Derived.Test.YtmbdbdhdcbdcpaaGreatDoorPk2
import Derived.Test.YtmbdbdhdcbdcpaaGreatDoorGAF8
namespace Go.Proofs.YtmbdbdhdcbdcpaaGreatDoor
open Go Abs
set_option maxRecDepth 100000
set_option linter.unusedVariables false
set_option linter.unusedSimpArgs false
theorem mono_rec_ref03xdigits (n:Nat):(∀ a0 m,n≤m→LeO (ref03xdigitsF n a0) (ref03xdigitsF m a0)):=by
 induction n with
 | zero=>exact fun _ _ _=>by intro r h;simp [ref03xdigitsF] at h
 | succ n ih =>
  intro a0 m hm
  obtain ⟨m,rfl⟩:∃ k,m=k+1:=⟨m - 1,by omega⟩
  rw [ref03xdigitsF,ref03xdigitsF]
  repeat' with_reducible (first | exact ih _ _ (by omega) | refine le_bind ?_ (fun _=>?_) | refine le_cond ?_ ?_ | refine le_gd ?_ | refine le_next (fun _=>?_) | refine le_loopO (fun _=>?_) | exact le_same _)
theorem ref03xdigits_lim {n:Nat}{p0n:Int}{r:(List UInt8)} (h:ref03xdigitsF n p0n=some r):ref03xdigits p0n=some r:=by
 unfold ref03xdigits
 exact lim_of (n:=n) h fun m hm=>(mono_rec_ref03xdigits n) p0n m hm
end Go.Proofs.YtmbdbdhdcbdcpaaGreatDoor

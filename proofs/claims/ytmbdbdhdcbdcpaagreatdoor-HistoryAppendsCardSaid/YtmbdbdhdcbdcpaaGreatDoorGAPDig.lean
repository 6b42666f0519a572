/- Decimal digits, plainly. -/
import Derived.Test.YtmbdbdhdcbdcpaaGreatDoorGAPLoop
import Derived.Test.YtmbdbdhdcbdcpaaGreatDoorLib
namespace Go.Proofs.YtmbdbdhdcbdcpaaGreatDoor
open Go Abs
set_option linter.unusedSimpArgs false
set_option linter.unusedVariables false
theorem dec_lt {u:Nat} (h:u<10):Lib.decDigits u=[UInt8.ofNat (48+u)]:=by rw [Lib.decDigits];simp [h]
theorem dec_ge {u:Nat} (h:¬u<10):Lib.decDigits u=Lib.decDigits (u / 10)++[UInt8.ofNat (48+u % 10)]:=by rw [Lib.decDigits];simp [h]
theorem dec_len:∀ (k u:Nat),u<10 ^ (k+1)→(Lib.decDigits u).length≤k+1
 | 0,u,h=>by rw [dec_lt (by omega)];simp
 | k+1,u,h=>by
  by_cases hu:u<10
  ·
   rw [dec_lt hu];simp
  ·
   rw [dec_ge hu]
   have:=dec_len k (u / 10) (by rw [Nat.pow_succ] at h;omega)
   simp;omega
end Go.Proofs.YtmbdbdhdcbdcpaaGreatDoor

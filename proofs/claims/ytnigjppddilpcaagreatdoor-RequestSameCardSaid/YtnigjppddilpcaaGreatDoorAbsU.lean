/- From a law's data to plain values, and how many values and letters they hold. -/
import Derived.Test.YtnigjppddilpcaaGreatDoorAbs29
import Derived.Test.YtnigjppddilpcaaGreatDoorRows
namespace Go.Proofs.YtnigjppddilpcaaGreatDoor.Abs
open Go
set_option linter.unusedVariables false
set_option linter.unusedSimpArgs false
mutual
def PV.bulk:PV→Nat
 | .str s=>s.length+1
 | .list _ xs=>PV.bulkRows xs+1
 | _=>1
def PV.bulkRow:List PV→Nat
 | []=>0
 | p :: ps=>PV.bulk p+PV.bulkRow ps
def PV.bulkRows:List (List PV)→Nat
 | []=>0
 | r :: rs=>PV.bulkRow r+PV.bulkRows rs
end

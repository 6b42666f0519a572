/- HistoryAppends: the plain law. -/
import Derived.Test.YtmbdbdhdcbdcpaaGreatDoorGAPHistC
import Derived.Test.YtmbdbdhdcbdcpaaGreatDoorGAPHistT
import Derived.Test.YtmbdbdhdcbdcpaaGreatDoorGAPHistV
import Derived.Test.YtmbdbdhdcbdcpaaGreatDoorGAF9
namespace Go.Proofs.YtmbdbdhdcbdcpaaGreatDoor
open Go Abs
set_option linter.unusedSimpArgs false
set_option linter.unusedVariables false
theorem SameEvents_refl {l:List ApiEvent} (hl:okLs 272 okApiEvent l):ref24xSameEvents l l=some true:=by
 unfold ref24xSameEvents
 have hloop:loopO (ref24xSameEvents_l1 l l) (0:Int)=some (.go ():Fl Bool Unit):=by
  refine loop_look l.length (.go ():Fl Bool Unit) (fun i hi=>?_) ?_
  ·
   unfold ref24xSameEvents_l1
   rw [cond_d,if_pos (by omega),idx_ok hi,Option.bind_some,Option.bind_some,refSame22_eq (hl.2.2 _ (List.getElem_mem hi)),Option.bind_some,esame_refl,w64s hi hl.1]
   rfl
  ·
   unfold ref24xSameEvents_l1
   rw [cond_d,if_neg (by omega)]
 rw [hloop]
 simp [Fl.next]
theorem HistoryAppends_pure (l m:List ApiEvent) (hl:okLs 272 okApiEvent l) (hm:okLs 272 okApiEvent m):law24xHistoryAppends l m=some true:=by
 unfold law24xHistoryAppends
 rw [works24]
 by_cases hn:(200:Int)<(l.length:Int)
 ·
  simp [hn]
 by_cases hn2:(200:Int)<(m.length:Int)
 ·
  simp [hn2]
 have h1:l.length≤200:=by omega
 have h2:m.length≤200:=by omega
 obtain ⟨hok,happ⟩:=Append_eq hl hm h1 h2
 have href:ref24xAppend l m=some (if chk 0 (l++m) zeroK=0 then (l++m,0) else ([],chk 0 (l++m) zeroK)):=by
  unfold ref24xAppend
  rw [app_ok (by simp;omega),Option.bind_some,List.nil_append,app_ok (by omega),Option.bind_some,refCheck_eq hok,Check_eq hok,if_neg (by rw [List.length_append];omega),Option.bind_some,Bool.cond_not,cond_d]
  by_cases h0:chk 0 (l++m) zeroK=0
  ·
   rw [if_pos h0,if_pos h0]
  ·
   rw [if_neg h0,if_neg h0]
 simp only [hn,hn2,decide_false,cond_false]
 rw [happ,href]
 simp only [Option.bind_some]
 have hs:ref24xSameEvents (if chk 0 (l++m) zeroK=0 then (l++m,(0:Int)) else ([],chk 0 (l++m) zeroK)).1 (if chk 0 (l++m) zeroK=0 then (l++m,(0:Int)) else ([],chk 0 (l++m) zeroK)).1=some true:=by
  refine SameEvents_refl ?_
  split
  ·
   exact hok
  ·
   exact ⟨by simp,by simp,by simp⟩
 rw [hs]
 simp [gd]
end Go.Proofs.YtmbdbdhdcbdcpaaGreatDoor

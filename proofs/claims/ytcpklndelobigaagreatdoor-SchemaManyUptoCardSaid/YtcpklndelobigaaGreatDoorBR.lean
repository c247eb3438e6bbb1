/- Values that refer to nothing. No condition. -/
import Derived.Test.YtcpklndelobigaaGreatDoorCE
import Derived.Test.YtcpklndelobigaaGreatDoorAbsg
set_option linter.all false
namespace Go.Proofs.YtcpklndelobigaaGreatDoor
open Go.Proofs.YtcpklndelobigaaGreatDoor.Abs
set_option maxRecDepth 20000
set_option maxHeartbeats 4000000
mutual
theorem eW:∀ x:aa,x.bel 0=true→x.refs=[]
 | .agg cs,h=>by simp only [aa.refs];exact dC cs (by simpa [aa.bel] using h)
 | .tup cs,h=>by simp only [aa.refs];exact dC cs (by simpa [aa.bel] using h)
 | .pimm cs _,h=>by simp only [aa.refs];exact dC cs (by simpa [aa.bel] using h)
 | .imm l,h=>by simp only [aa.refs];exact dC l (by simpa [aa.bel] using h)
 | .full l,h=>by simp only [aa.refs];exact dC l (by simpa [aa.bel] using h)
 | .fn f xs ys,h=>by
  simp only [aa.bel,Bool.and_eq_true] at h
  simp only [aa.refs,dC xs h.1,dC ys h.2,List.append_nil]
 | .iface t v,h=>by simp only [aa.refs];exact eW v (by simpa [aa.bel] using h)
 | .ptr o _,h=>by simp [aa.bel] at h
 | .pown o _ _ _,h=>by simp [aa.bel] at h
 | .own o _ _,h=>by simp [aa.bel] at h
 | .map o,h=>by simp [aa.bel] at h
 | .itr o,h=>by simp [aa.bel] at h
 | .any,_=>rfl
 | .bool _,_=>rfl
 | .int _ _,_=>rfl
 | .str _,_=>rfl
 | .nilp,_=>rfl
 | .nilm,_=>rfl
 | .nilfn,_=>rfl
 | .nili,_=>rfl
theorem dC:∀ l:List aa,av 0 l=true→dA l=[]
 | [],_=>rfl
 | x::l,h=>by
  simp only [av,Bool.and_eq_true] at h
  simp only [dA,eW x h.1,dC l h.2,List.append_nil]
end
end Go.Proofs.YtcpklndelobigaaGreatDoor

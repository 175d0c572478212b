import Derived.Test.YtonfgoanbllceaaGreatDoorAWalk14
set_option linter.unusedVariables false
set_option linter.unusedSimpArgs false
set_option maxHeartbeats 2000000
set_option maxRecDepth 100000
namespace Go.Proofs.YtonfgoanbllceaaGreatDoor
open Go Go.Am
theorem jR(n:Nat)(a0:x9)(a1:x9)(r:Bool)(h:V6 n a0 a1=some r):Pure Tryz.prog gl 3 [.agg [.sl false 2 40 (rows w8.cells a0.hierarchy.types),.sl false 3 32 (rows y3.cells a0.hierarchy.B1),.sl false 10 152 (rows w4.cells a0.rules),.sl false 9 144 (rows x7.cells a0.y9),.sl false 2 32 (rows x5.cells a0.start.nodes)],.agg [.sl false 2 40 (rows w8.cells a1.hierarchy.types),.sl false 3 32 (rows y3.cells a1.hierarchy.B1),.sl false 10 152 (rows w4.cells a1.rules),.sl false 9 144 (rows x7.cells a1.y9),.sl false 2 32 (rows x5.cells a1.start.nodes)]] (.bool r):=by
 intro st
 unfold V6 at h
 have fx:=trivial
 refine fb 65 [.tmp 4] [0,1,2,3,4,5,6,7,8,9,11,23,28,29,33,49,50,51,54,55,56,57,58,61,62,63] Tryz.func3 fun hsc=>?_
 refine cl h (lF n) fun v1 h=>?_
 refine cd h (fun hc h=>?_) fun hc h=>?_
 ·exact rt
 ·refine cl h (pV n _ _) fun v2 h=>?_
  refine cl h (lJ n _ _) fun v3 h=>?_
  refine cd h (fun hc h=>?_) fun hc h=>?_
  ·refine rn ?_
   obtain⟨v4,hv4,h⟩:=E4 h
   refine P4 (fun hG=>(lK _ _ (kh hv4 (by simpa using hG)))) ?_
   exact rt
  ·refine cd h (fun hc h=>?_) fun hc h=>?_
   ·exact rt
   ·refine cl h (xU _) fun v5 h=>?_
    refine cl h (uS n _ _) fun v6 h=>?_
    refine rn ?_
    obtain⟨v7,hv7,h⟩:=E4 h
    refine P4 (fun hG=>(jc n _ _ _ (kh hv7 (by simpa using hG)))) ?_
    refine rn ?_
    obtain⟨v8,hv8,h⟩:=E4 h
    refine P4 (fun hG=>(fJ n _ _ _ (kh hv8 (by simpa using hG)))) ?_
    exact rt
end Go.Proofs.YtonfgoanbllceaaGreatDoor

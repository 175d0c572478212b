import Derived.Test.YtfacbpehlibilaaGreatDoorTVWalk12
set_option linter.unusedVariables false
set_option linter.unusedSimpArgs false
set_option maxHeartbeats 2000000
set_option maxRecDepth 100000
namespace Go.Proofs.YtfacbpehlibilaaGreatDoor
open Go Go.Am
theorem r9O(n:Nat)(a0:(List r4V))(r:Bool)(h:r5L n a0=some r):Pure Tryz.prog gl 3 [.sl false 11 216 (rows r4V.cells a0)] (.bool r):=by
 intro st
 unfold r5L at h
 have fx:=trivial
 refine fb 11 [.tmp 2] [0,2,5,6,7,8,9] Tryz.func3 fun hsc=>?_
 refine cl h (u3g n) fun v1 h=>?_
 refine rn ?_
 obtain⟨v2,hv2,h⟩:=r7G h
 refine u0C (fun hG=>(u4t n _ _ (w1s hv2 (by simpa using hG)))) ?_
 refine rn ?_
 obtain⟨v3,hv3,h⟩:=r7G h
 refine u0C (fun hG=>(u3f n _ _ (w1s hv3 (by simpa using hG)))) ?_
 exact rt
end Go.Proofs.YtfacbpehlibilaaGreatDoor

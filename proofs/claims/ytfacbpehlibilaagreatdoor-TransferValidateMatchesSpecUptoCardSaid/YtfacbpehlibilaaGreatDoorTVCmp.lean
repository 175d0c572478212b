import Derived.Test.YtfacbpehlibilaaGreatDoorTVData
import Derived.Test.YtfacbpehlibilaaGreatDoorTVAm3
set_option linter.unusedVariables false
set_option linter.unusedSimpArgs false
namespace Go.Proofs.YtfacbpehlibilaaGreatDoor
open Go Go.Am
def x9i(a b:r4W):Int:=a.at_-b.at_
def y0l(l:List r4W):Prop:=(∀x∈l,0≤x.at_∧x.at_≤1000000)∧(l.map (·.at_)).Nodup
instance(l:List r4W):Decidable (y0l l):=inferInstanceAs (Decidable (_∧_))
end Go.Proofs.YtfacbpehlibilaaGreatDoor

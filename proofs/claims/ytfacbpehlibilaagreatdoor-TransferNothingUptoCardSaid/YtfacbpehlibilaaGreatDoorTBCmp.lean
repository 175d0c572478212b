import Derived.Test.YtfacbpehlibilaaGreatDoorTBData
import Derived.Test.YtfacbpehlibilaaGreatDoorTBAm3
set_option linter.unusedVariables false
set_option linter.unusedSimpArgs false
namespace Go.Proofs.YtfacbpehlibilaaGreatDoor
open Go Go.Am
def i8H(a b:Oy):Int:=a.at_-b.at_
def i9D(l:List Oy):Prop:=(∀x∈l,0≤x.at_∧x.at_≤1000000)∧(l.map (·.at_)).Nodup
instance(l:List Oy):Decidable (i9D l):=inferInstanceAs (Decidable (_∧_))
end Go.Proofs.YtfacbpehlibilaaGreatDoor

import Derived.Test.YtfacbpehlibilaaGreatDoorTZData
import Derived.Test.YtfacbpehlibilaaGreatDoorTZAm3
set_option linter.unusedVariables false
set_option linter.unusedSimpArgs false
namespace Go.Proofs.YtfacbpehlibilaaGreatDoor
open Go Go.Am
def PE(a b:u7):Int:=a.at_-b.at_
def Oh(l:List u7):Prop:=(∀x∈l,0≤x.at_∧x.at_≤1000000)∧(l.map (·.at_)).Nodup
instance(l:List u7):Decidable (Oh l):=inferInstanceAs (Decidable (_∧_))
end Go.Proofs.YtfacbpehlibilaaGreatDoor

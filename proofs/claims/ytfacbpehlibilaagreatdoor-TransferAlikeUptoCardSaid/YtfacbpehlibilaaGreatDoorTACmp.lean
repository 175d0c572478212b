import Derived.Test.YtfacbpehlibilaaGreatDoorTAData
import Derived.Test.YtfacbpehlibilaaGreatDoorTAAm3
set_option linter.unusedVariables false
set_option linter.unusedSimpArgs false
namespace Go.Proofs.YtfacbpehlibilaaGreatDoor
open Go Go.Am
def p8Z(a b:Wp):Int:=a.at_-b.at_
def p9a(l:List Wp):Prop:=(∀x∈l,0≤x.at_∧x.at_≤1000000)∧(l.map (·.at_)).Nodup
instance(l:List Wp):Decidable (p9a l):=inferInstanceAs (Decidable (_∧_))
end Go.Proofs.YtfacbpehlibilaaGreatDoor

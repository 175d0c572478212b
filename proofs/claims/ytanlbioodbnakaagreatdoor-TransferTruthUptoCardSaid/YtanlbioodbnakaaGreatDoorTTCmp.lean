import Derived.Test.YtanlbioodbnakaaGreatDoorTTData
import Derived.Test.YtanlbioodbnakaaGreatDoorTTAm3
set_option linter.unusedVariables false
set_option linter.unusedSimpArgs false
namespace Go.Proofs.YtanlbioodbnakaaGreatDoor
open Go Go.Am
def PD(a b:u6):Int:=a.at_-b.at_
def PE(l:List u6):Prop:=(∀x∈l,0≤x.at_∧x.at_≤1000000)∧(l.map (·.at_)).Nodup
instance(l:List u6):Decidable (PE l):=inferInstanceAs (Decidable (_∧_))
end Go.Proofs.YtanlbioodbnakaaGreatDoor

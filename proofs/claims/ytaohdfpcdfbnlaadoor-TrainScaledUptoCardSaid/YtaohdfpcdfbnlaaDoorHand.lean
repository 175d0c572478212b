/- Contracts of the library's own functions, laid from the shelf. -/
import Derived.Shelf.Strings.Search1
import Derived.Lib.IndexAny
import Derived.Test.YtaohdfpcdfbnlaaDoorBase
set_option linter.unusedVariables false
set_option linter.unusedSimpArgs false
namespace Go.Proofs.YtaohdfpcdfbnlaaDoor
open Go Go.Am Go.Shelf

def renH : Ren := ⟨fun x => if x = 217 then 86 else if x = 266 then 87 else if x = 119 then 83 else if x = 137 then 82 else if x = 152 then 78 else if x = 153 then 76 else if x = 224 then 84 else if x = 225 then 85 else if x = 226 then 79 else if x = 227 then 80 else if x = 228 then 81 else x,
  fun x => if x = 46 then 139 else if x = 116 then 157 else if x = 117 then 158 else if x = 124 then 164 else x, fun x => if x = 1 then 3 else x⟩
theorem lays217 : Lays.n217 Tryd.prog renH where
  mixed := follows
  f217 := Tryd.func86.trans (by kernel_rfl)
  f266 := Tryd.func87.trans (by kernel_rfl)
  t3 := Tryd.underlying3
  a3 := Tryd.isAgg3
  z3 := Tryd.sizeOf3
  v3 := Tryd.zeroValue3
  t5 := Tryd.underlying5
  a5 := Tryd.isAgg5
  z5 := Tryd.sizeOf5
  v5 := Tryd.zeroValue5
  t9 := Tryd.underlying9
  a9 := Tryd.isAgg9
  z9 := Tryd.sizeOf9
  v9 := Tryd.zeroValue9
def indexByte (s : Bs) (c : Int) : Option Int := some (Lib.indexByte s c.toNat.toUInt8)

theorem ok_indexByte (s : Bs) (c r : Int) (h : indexByte s c = some r) : Pure Tryd.prog gl 86 [.str s, .int .u8 c] (.int .i64 r) := by
  intro st
  cases h
  refine ⟨by rw [Tryd.func86]; kernel_rfl, fun w μ vs hs hg hn hv => ?_⟩
  have e0 := vr_str (hv 0 (by simp))
  have e1 := vr_int (hv 1 (by simp))
  have : vs = #[.string (bs s), .int .u8 c] := by
    apply Array.ext
    · simpa using hn
    · intro i h1 h2
      have hi : i < 2 := by simpa using h2
      match i, hi with
      | 0, _ => simpa [Array.getD, h1] using e0
      | 1, _ => simpa [Array.getD, h1] using e1
  subst this
  refine (Any.stringslite_IndexByte lays217 (bs s) c w).mono fun e w' ⟨h1, h2⟩ => ?_
  subst h2
  exact ⟨_, _, st, μ, h1, ⟨rfl, rfl⟩, hs, Step.refl _ _ _, mk_int _ _ _ _ _⟩

end Go.Proofs.YtaohdfpcdfbnlaaDoor


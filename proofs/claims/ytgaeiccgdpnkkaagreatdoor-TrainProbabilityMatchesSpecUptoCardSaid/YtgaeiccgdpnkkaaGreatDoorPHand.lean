import Derived.Shelf.Strings.Search1
import Derived.Lib.IndexAny
import Derived.Test.YtgaeiccgdpnkkaaGreatDoorPBase
set_option linter.unusedVariables false
set_option linter.unusedSimpArgs false
namespace Go.Proofs.YtgaeiccgdpnkkaaGreatDoor
open Go Go.Am Go.Shelf
def p7E : Ren := ⟨fun x => if x = 119 then 256 else if x = 137 then 255 else if x = 152 then 249 else if x = 153 then 239 else if x = 217 then 259 else if x = 224 then 257 else if x = 225 then 258 else if x = 226 then 250 else if x = 227 then 251 else if x = 228 then 252 else if x = 266 then 260 else x,
 fun x => if x = 46 then 267 else if x = 116 then 325 else if x = 117 then 326 else if x = 124 then 336 else x, fun x => if x = 1 then 5 else x⟩
theorem p6q : Lays.n217 Tryz.prog p7E where
 mixed := follows
 f217 := Tryz.func259.trans (by kernel_rfl)
 f266 := Tryz.func260.trans (by kernel_rfl)
 t3 := Tryz.underlying3
 a3 := Tryz.isAgg3
 z3 := Tryz.sizeOf3
 v3 := Tryz.zeroValue3
 t5 := Tryz.underlying5
 a5 := Tryz.isAgg5
 z5 := Tryz.sizeOf5
 v5 := Tryz.zeroValue5
 t9 := Tryz.underlying9
 a9 := Tryz.isAgg9
 z9 := Tryz.sizeOf9
 v9 := Tryz.zeroValue9
def indexByte (s : Bs) (c : Int) : Option Int := some (Lib.indexByte s c.toNat.toUInt8)
theorem i7W (s : Bs) (c r : Int) (h : indexByte s c = some r) : Pure Tryz.prog gl 259 [.str s, .int .u8 c] (.int .i64 r) := by
 intro st
 cases h
 refine ⟨by rw [Tryz.func259]; kernel_rfl, fun w μ vs hs hg hn hv => ?_⟩
 have e0 := d7B (hv 0 (by simp))
 have e1 := d6x (hv 1 (by simp))
 have : vs = #[.string (bs s), .int .u8 c] := by
  apply Array.ext
  ·simpa using hn
  ·intro i h1 h2
   have hi : i < 2 := by simpa using h2
   match i, hi with
   | 0, _ => simpa [Array.getD, h1] using e0
   | 1, _ => simpa [Array.getD, h1] using e1
 subst this
 refine (Any.stringslite_IndexByte p6q (bs s) c w).mono fun e w' ⟨h1, h2⟩ => ?_
 subst h2
 exact ⟨_, _, st, μ, h1, ⟨rfl, rfl⟩, hs, Step.refl _ _ _, d4A _ _ _ _ _⟩
end Go.Proofs.YtgaeiccgdpnkkaaGreatDoor

import Derived.Shelf.Strings.IndexAnyAll
import Derived.Test.YtgaeiccgdpnkkaaGreatDoorPHand
set_option linter.unusedVariables false
set_option linter.unusedSimpArgs false
namespace Go.Proofs.YtgaeiccgdpnkkaaGreatDoor
open Go Go.Am Go.Shelf
theorem p6r : Lays.n153 Tryz.prog p7E where
 mixed := follows
 f119 := Tryz.func256.trans (by kernel_rfl)
 f137 := Tryz.func255.trans (by kernel_rfl)
 f152 := Tryz.func249.trans (by kernel_rfl)
 f153 := Tryz.func239.trans (by kernel_rfl)
 f217 := Tryz.func259.trans (by kernel_rfl)
 f224 := Tryz.func257.trans (by kernel_rfl)
 f225 := Tryz.func258.trans (by kernel_rfl)
 f226 := Tryz.func250.trans (by kernel_rfl)
 f227 := Tryz.func251.trans (by kernel_rfl)
 f228 := Tryz.func252.trans (by kernel_rfl)
 f266 := Tryz.func260.trans (by kernel_rfl)
 t0 := Tryz.underlying0
 a0 := Tryz.isAgg0
 z0 := Tryz.sizeOf0
 v0 := Tryz.zeroValue0
 t3 := Tryz.underlying3
 a3 := Tryz.isAgg3
 z3 := Tryz.sizeOf3
 v3 := Tryz.zeroValue3
 t4 := Tryz.underlying4
 a4 := Tryz.isAgg4
 z4 := Tryz.sizeOf4
 v4 := Tryz.zeroValue4
 t5 := Tryz.underlying5
 a5 := Tryz.isAgg5
 z5 := Tryz.sizeOf5
 v5 := Tryz.zeroValue5
 t9 := Tryz.underlying9
 a9 := Tryz.isAgg9
 z9 := Tryz.sizeOf9
 v9 := Tryz.zeroValue9
 t21 := Tryz.underlying21
 a21 := Tryz.isAgg21
 z21 := Tryz.sizeOf21
 v21 := Tryz.zeroValue21
 t46 := Tryz.underlying267
 a46 := Tryz.isAgg267
 z46 := Tryz.sizeOf267
 v46 := Tryz.zeroValue267
 t116 := Tryz.underlying325
 a116 := Tryz.isAgg325
 z116 := Tryz.sizeOf325
 t117 := Tryz.underlying326
 a117 := Tryz.isAgg326
 z117 := Tryz.sizeOf326
 v117 := Tryz.zeroValue326
 t124 := Tryz.underlying336
 a124 := Tryz.isAgg336
 z124 := Tryz.sizeOf336
 v124 := Tryz.zeroValue336
theorem i7X {w : World} {μ : Mu} {st : St} {x : Obj} (hs : Sim w μ st) : Sim (w.alloc x) μ st ∧ Step w μ st (w.alloc x) μ st := by
 have step : Step w μ st (w.alloc x) μ st :=
  ⟨by simp, rfl, rfl, rfl, fun blk hb _ => d5n hb, fun blk h => .inl h, Nat.le_refl _, fun o ob' _ h => ⟨ob', h, by
   cases ob' with
   | arr g n b es => exact ⟨Nat.le_refl _, fun _ => ⟨rfl, rfl, rfl, rfl, fun blk base c ty _ hh => ⟨c, by
     refine ⟨(d5n ?_).trans hh, rfl⟩
     ·rcases Nat.lt_or_ge blk w.heap.size with h | h
      ·exact h
      ·rw [Array.getElem?_eq_none h] at hh; cases hh⟩⟩⟩
   | mps => exact ⟨rfl, rfl⟩
   | mpi => exact ⟨rfl, rfl, rfl⟩
   | sit => exact rfl
   | resv => exact trivial⟩⟩
 exact ⟨⟨fun o ob h => (hs.obj o ob h).step step (fun blk base e => d5n (i3S hs ⟨o, ob, base, h, e⟩)), hs.inj⟩, step⟩
set_option maxRecDepth 100000 in
theorem hv180 (w : World) : (zeroValue (p7E.t 116)).run Tryz.prog w = .ok (.agg (Array.replicate 256 (.bool false))) w := Tryz.zeroValue325 w
theorem d6a (s : Bs) : (bs s).size = s.length := by simp [bs, ByteArray.size]
theorem r1b : (Tryz.prog.info? (p7E.t 116)).map (·.size) = some 256 := by kernel_rfl
theorem i6W (s c : Bs) (h2 : 2 ≤ c.length) (h8 : 8 < s.length) (hs : s.length < 4294967281) (hc : c.length < 4294967281) (ha : c.all (fun b => decide (b.toNat < 128)) = true) :
  Pure Tryz.prog gl 239 [.str s, .str c] (.int .i64 (Lib.indexAny s c)) := by
 intro st
 refine ⟨by rw [Tryz.func239]; kernel_rfl, fun w μ vs r2N hg hn hv => ?_⟩
 have e0 := d7B (hv 0 (by simp))
 have e1 := d7B (hv 1 (by simp))
 have : vs = #[.string (bs s), .string (bs c)] := by
  apply Array.ext
  ·simpa using hn
  ·intro i h1 h2
   have hi : i < 2 := by simpa using h2
   match i, hi with
   | 0, _ => simpa [Array.getD, h1] using e0
   | 1, _ => simpa [Array.getD, h1] using e1
 subst this
 have key := Any.strings_IndexAny_long p6r hv180 r1b (bs s) (bs c) w (by rw [d6a]; exact h2) (by rw [d6a]; exact h8) (by rw [d6a]; exact hs) (by rw [d6a]; exact hc) (fun j b hb => by
  have hm : b ∈ c := by
   have := List.mem_of_getElem? hb
   simpa [bs] using this
  exact of_decide_eq_true (List.all_eq_true.1 ha b hm))
 refine key.mono fun e w' ⟨h1, h2⟩ => ?_
 subst h2
 obtain ⟨s1, t1⟩ := i7X (x := .cells (Lib.setCells (bs c).data.toList) (p7E.t 116)) r2N
 obtain ⟨s2, t2⟩ := i7X (x := .cells (Lib.setCells (bs c).data.toList) (p7E.t 116)) s1
 exact ⟨_, _, st, μ, h1, ⟨rfl, rfl⟩, s2, t1.trans t2, d4A _ _ _ _ _⟩
end Go.Proofs.YtgaeiccgdpnkkaaGreatDoor

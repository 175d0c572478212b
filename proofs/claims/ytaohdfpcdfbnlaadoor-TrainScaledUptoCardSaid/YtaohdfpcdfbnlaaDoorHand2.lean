/- strings.IndexAny, laid from the shelf. -/
import Derived.Shelf.Strings.IndexAnyAll
import Derived.Test.YtaohdfpcdfbnlaaDoorHand
set_option linter.unusedVariables false
set_option linter.unusedSimpArgs false
namespace Go.Proofs.YtaohdfpcdfbnlaaDoor
open Go Go.Am Go.Shelf

theorem lays153 : Lays.n153 Tryd.prog renH where
  mixed := follows
  f119 := Tryd.func83.trans (by kernel_rfl)
  f137 := Tryd.func82.trans (by kernel_rfl)
  f152 := Tryd.func78.trans (by kernel_rfl)
  f153 := Tryd.func76.trans (by kernel_rfl)
  f217 := Tryd.func86.trans (by kernel_rfl)
  f224 := Tryd.func84.trans (by kernel_rfl)
  f225 := Tryd.func85.trans (by kernel_rfl)
  f226 := Tryd.func79.trans (by kernel_rfl)
  f227 := Tryd.func80.trans (by kernel_rfl)
  f228 := Tryd.func81.trans (by kernel_rfl)
  f266 := Tryd.func87.trans (by kernel_rfl)
  t0 := Tryd.underlying0
  a0 := Tryd.isAgg0
  z0 := Tryd.sizeOf0
  v0 := Tryd.zeroValue0
  t3 := Tryd.underlying3
  a3 := Tryd.isAgg3
  z3 := Tryd.sizeOf3
  v3 := Tryd.zeroValue3
  t4 := Tryd.underlying4
  a4 := Tryd.isAgg4
  z4 := Tryd.sizeOf4
  v4 := Tryd.zeroValue4
  t5 := Tryd.underlying5
  a5 := Tryd.isAgg5
  z5 := Tryd.sizeOf5
  v5 := Tryd.zeroValue5
  t9 := Tryd.underlying9
  a9 := Tryd.isAgg9
  z9 := Tryd.sizeOf9
  v9 := Tryd.zeroValue9
  t21 := Tryd.underlying21
  a21 := Tryd.isAgg21
  z21 := Tryd.sizeOf21
  v21 := Tryd.zeroValue21
  t46 := Tryd.underlying139
  a46 := Tryd.isAgg139
  z46 := Tryd.sizeOf139
  v46 := Tryd.zeroValue139
  t116 := Tryd.underlying157
  a116 := Tryd.isAgg157
  z116 := Tryd.sizeOf157
  t117 := Tryd.underlying158
  a117 := Tryd.isAgg158
  z117 := Tryd.sizeOf158
  v117 := Tryd.zeroValue158
  t124 := Tryd.underlying164
  a124 := Tryd.isAgg164
  z124 := Tryd.sizeOf164
  v124 := Tryd.zeroValue164

/-- memory that nobody reads -/
theorem sim_aside {w : World} {μ : Mu} {st : St} {x : Obj} (hs : Sim w μ st) : Sim (w.alloc x) μ st ∧ Step w μ st (w.alloc x) μ st := by
  have step : Step w μ st (w.alloc x) μ st :=
    ⟨by simp, rfl, rfl, rfl, fun blk hb _ => heap_alloc_lt hb, fun blk h => .inl h, Nat.le_refl _, fun o ob' _ h => ⟨ob', h, by
      cases ob' with
      | arr g n b es => exact ⟨Nat.le_refl _, fun _ => ⟨rfl, rfl, rfl, rfl, fun blk base c ty _ hh => ⟨c, by
          refine ⟨(heap_alloc_lt ?_).trans hh, rfl⟩
          · rcases Nat.lt_or_ge blk w.heap.size with h | h
            · exact h
            · rw [Array.getElem?_eq_none h] at hh; cases hh⟩⟩⟩
      | mps => exact ⟨rfl, rfl⟩
      | mpi => exact ⟨rfl, rfl, rfl⟩
      | sit => exact rfl
      | resv => exact trivial⟩⟩
  exact ⟨⟨fun o ob h => (hs.obj o ob h).step step (fun blk base e => heap_alloc_lt (own_lt hs ⟨o, ob, base, h, e⟩)), hs.inj⟩, step⟩

set_option maxRecDepth 100000 in
theorem hv157 (w : World) : (zeroValue (renH.t 116)).run Tryd.prog w = .ok (.agg (Array.replicate 256 (.bool false))) w := Tryd.zeroValue157 w
theorem bs_size (s : Bs) : (bs s).size = s.length := by simp [bs, ByteArray.size]
theorem hi157 : (Tryd.prog.info? (renH.t 116)).map (·.size) = some 256 := by kernel_rfl

/-- strings.IndexAny where s is long -/
theorem indexAny_long (s c : Bs) (h2 : 2 ≤ c.length) (h8 : 8 < s.length) (hs : s.length < 4294967281) (hc : c.length < 4294967281) (ha : c.all (fun b => decide (b.toNat < 128)) = true) :
    Pure Tryd.prog gl 76 [.str s, .str c] (.int .i64 (Lib.indexAny s c)) := by
  intro st
  refine ⟨by rw [Tryd.func76]; kernel_rfl, fun w μ vs hsim hg hn hv => ?_⟩
  have e0 := vr_str (hv 0 (by simp))
  have e1 := vr_str (hv 1 (by simp))
  have : vs = #[.string (bs s), .string (bs c)] := by
    apply Array.ext
    · simpa using hn
    · intro i h1 h2
      have hi : i < 2 := by simpa using h2
      match i, hi with
      | 0, _ => simpa [Array.getD, h1] using e0
      | 1, _ => simpa [Array.getD, h1] using e1
  subst this
  have key := Any.strings_IndexAny_long lays153 hv157 hi157 (bs s) (bs c) w (by rw [bs_size]; exact h2) (by rw [bs_size]; exact h8) (by rw [bs_size]; exact hs) (by rw [bs_size]; exact hc) (fun j b hb => by
    have hm : b ∈ c := by
      have := List.mem_of_getElem? hb
      simpa [bs] using this
    exact of_decide_eq_true (List.all_eq_true.1 ha b hm))
  refine key.mono fun e w' ⟨h1, h2⟩ => ?_
  subst h2
  obtain ⟨s1, t1⟩ := sim_aside (x := .cells (Lib.setCells (bs c).data.toList) (renH.t 116)) hsim
  obtain ⟨s2, t2⟩ := sim_aside (x := .cells (Lib.setCells (bs c).data.toList) (renH.t 116)) s1
  exact ⟨_, _, st, μ, h1, ⟨rfl, rfl⟩, s2, t1.trans t2, mk_int _ _ _ _ _⟩

end Go.Proofs.YtaohdfpcdfbnlaaDoor


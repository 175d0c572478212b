/-
 AM, part 1: the data-level machine: its values D, its store St, and how they stand for the model's values and worlds.
-/
import Derived.WalkKit
import Derived.KernelRfl
import Derived.MapKept
set_option linter.unusedVariables false
set_option linter.unusedSimpArgs false
namespace Go.Am
open Go
abbrev Bs := List UInt8
def bs (l : Bs) : ByteArray := ⟨l.toArray⟩
inductive D where
 | any
 | bool (b : Bool)
 | int (k : IntKind) (n : Int)
 | str (s : Bs)
 | i4m
 | YP
 | d8Z
 | i8f
 | sl (full : Bool) (n b : Nat) (es : List (List D))
 | agg (cs : List D)
 | tup (cs : List D)
 | fn (f : Nat) (first cap : List D)
 | i0x (cs : List D)
 | ref (full : Bool) (o g off len : Nat)
 | ptr (o g i c : Nat)
 | mp (o : Nat)
 | it (o : Nat)
 | cond (g : Bool) (d : D)
 deriving Inhabited
def D.live : D → Bool
 | .cond g _ => g
 | _ => true
inductive Ob where
 | arr (g n b : Nat) (es : List (List D))
 | mps (ag : Bool) (es : List (Bs × List D))
 | mpi (ag : Bool) (k : IntKind) (es : List (Int × List D))
 | sit (s : Bs) (pos : Nat)
 | resv
 deriving Inhabited
abbrev St := List (Option Ob)
def puts (st : St) : List (Nat × Ob) → St
 | [] => st
 | (o, x) :: m => (puts st m).set o (some x)
theorem p7v {st : St} : puts st [] = st := rfl
theorem p5K {st : St} {o : Nat} {x : Ob} {m : List (Nat × Ob)} : puts st ((o, x) :: m) = (puts st m).set o (some x) := rfl
abbrev Mu := Nat → Option (Nat × Nat)
def top : Nat := 140737488355328
def own (μ : Mu) (st : St) (blk : Nat) : Prop := ∃ o ob base, st[o]? = some (some ob) ∧ μ o = some (blk, base)
inductive TR (w : World) (own : Nat → Prop) : Value → D → Prop
 | any (v : Value) (h : v.oneCell' = true) : TR w own v .any
 | bool (b : Bool) : TR w own (.bool b) (.bool b)
 | int (k : IntKind) (n : Int) : TR w own (.int k n) (.int k n)
 | str (s : Bs) : TR w own (.string (bs s)) (.str s)
 | i4m : TR w own (.pointer none) .i4m
 | YP : TR w own (.slice none 0 0) .YP
 | d8Z : TR w own .nilFunc .d8Z
 | i8f : TR w own (.map none) .i8f
 | sl (full : Bool) (n b : Nat) (es : List (List D)) (a : Option Addr) (len cap : Nat) (cv : Nat → Nat → Value)
   (hlen : len = es.length) (hcap : len ≤ cap) (i3R : full = true → cap = len) (hb : es.length * b ≤ top) (hb1 : 1 ≤ b)
   (hn : ∀ e ∈ es, e.length = n)
   (ha : es = [] ∨ ∃ blk off, a = some ⟨blk, off, none⟩ ∧ blk < w.heap.size ∧ ¬ own blk ∧
    ∀ i j, i < es.length → j < n → w.cell? ⟨blk, off + (i * n + j), none⟩ = some (cv i j))
   (hc : ∀ i j (hi : i < es.length) (hj : j < (es[i]).length), TR w own (cv i j) ((es[i])[j])) :
   TR w own (.slice a len cap) (.sl full n b es)
 | i0x (cs : List D) (blk off : Nat) (cv : Nat → Value) (i1X : blk < w.heap.size) (hown : ¬ own blk)
   (ha : ∀ j, j < cs.length → w.cell? ⟨blk, off + j, none⟩ = some (cv j))
   (hc : ∀ j (hj : j < cs.length), TR w own (cv j) (cs[j])) : TR w own (.pointer (some ⟨blk, off, none⟩)) (.i0x cs)
def d9x (w : World) (m : Option (Nat × Nat)) (n : Nat) (es : List (List D)) (full : Bool) (off len : Nat) (v : Value) : Prop :=
 ∃ a cap, v = .slice a len cap ∧ len ≤ cap ∧ off + len ≤ es.length ∧ (full = true → cap = len) ∧
  (cap = 0 ∨ ∃ blk base, m = some (blk, base) ∧ a = some ⟨blk, base + off * n, none⟩ ∧
   ∃ c ty, w.heap[blk]? = some (.cells c ty (0, 0)) ∧ base + (off + cap) * n ≤ c.size)
inductive VR (w : World) (μ : Mu) (st : St) : Value → D → Prop
 | any (v : Value) : VR w μ st v .any
 | tr {v : Value} {d : D} (h : TR w (own μ st) v d) : VR w μ st v d
 | agg (vs : Array Value) (cs : List D) (hs : vs.size = cs.length) (hc : ∀ j (h : j < cs.length), VR w μ st (vs.getD j undef) (cs[j])) :
   VR w μ st (.agg vs) (.agg cs)
 | tup (vs : Array Value) (cs : List D) (hs : ∀ j (h : j < cs.length), (cs[j]).live = true → j < vs.size) (hc : ∀ j (h : j < cs.length), VR w μ st (vs.getD j undef) (cs[j])) :
   VR w μ st (.tuple vs) (.tup cs)
 | fn (f : Nat) (vf vc : Array Value) (first cap : List D) (hf : vf.size = first.length) (hc : vc.size = cap.length)
   (hfc : ∀ j (h : j < first.length), VR w μ st (vf.getD j undef) (first[j])) (hcc : ∀ j (h : j < cap.length), VR w μ st (vc.getD j undef) (cap[j])) :
   VR w μ st (.func (.func f) vf vc) (.fn f first cap)
 | ref (v : Value) (full : Bool) (o g off len : Nat) (hv : ∃ a l c, v = .slice a l c) (ho : o < st.length) (hr : st[o]? ≠ some (some .resv)) (hg : ∀ g' n b es, st[o]? = some (some (.arr g' n b es)) → g ≤ g')
   (h : ∀ n b es, st[o]? = some (some (.arr g n b es)) → d9x w (μ o) n es full off len v) : VR w μ st v (.ref full o g off len)
 | ptr (v : Value) (o g i c : Nat) (hv : ∃ a, v = .pointer (some a)) (ho : o < st.length) (hr : st[o]? ≠ some (some .resv)) (hg : ∀ g' n b es, st[o]? = some (some (.arr g' n b es)) → g ≤ g')
   (h : ∀ n b es, st[o]? = some (some (.arr g n b es)) → ∃ blk base, μ o = some (blk, base) ∧ v = .pointer (some ⟨blk, base + (i * n + c), none⟩)) :
   VR w μ st v (.ptr o g i c)
 | mp (v : Value) (o : Nat) (hv : ∃ r, v = .map (some r)) (ho : o < st.length) (hr : st[o]? ≠ some (some .resv)) (h1 : ∀ ag es, st[o]? = some (some (.mps ag es)) → ∃ blk, μ o = some (blk, 0) ∧ v = .map (some blk))
   (h2 : ∀ ag k es, st[o]? = some (some (.mpi ag k es)) → ∃ blk, μ o = some (blk, 0) ∧ v = .map (some blk)) :
   VR w μ st v (.mp o)
 | it (v : Value) (o : Nat) (hv : ∃ a, v = .pointer (some a)) (ho : o < st.length) (hr : st[o]? ≠ some (some .resv)) (h : ∀ s p, st[o]? = some (some (.sit s p)) → ∃ blk, μ o = some (blk, 0) ∧ v = .pointer (some ⟨blk, 0, none⟩)) :
   VR w μ st v (.it o)
 | cond (v : Value) (g : Bool) (d : D) (h : g = true → VR w μ st v d) (h0 : g = false → v = undef) : VR w μ st v (.cond g d)
structure i1j (w : World) (μ : Mu) (st : St) (m : Option (Nat × Nat)) (n b : Nat) (es : List (List D)) : Prop where
 r0f : es.length * b ≤ top
 hn : ∀ e ∈ es, e.length = n
 loc : (m = none ∧ es = []) ∨ ∃ blk base c ty, m = some (blk, base) ∧ w.heap[blk]? = some (.cells c ty (0, 0)) ∧ base + es.length * n ≤ c.size ∧
  ∀ i j (hi : i < es.length) (hj : j < (es[i]).length), ∃ v, c[base + (i * n + j)]? = some v ∧ VR w μ st v ((es[i])[j]) ∧ v.oneCell' = true
def p1L (ag : Bool) (w : World) (μ : Mu) (st : St) (v : Value) (cs : List D) : Prop :=
 if ag then VR w μ st v (.agg cs) else ∃ d, cs = [d] ∧ VR w μ st v d
structure i0v {K : Type} (key : K → Value) (ag : Bool) (w : World) (μ : Mu) (st : St) (m : Option (Nat × Nat)) (es : List (K × List D)) : Prop where
 loc : ∃ blk ents clock, m = some (blk, 0) ∧ w.heap[blk]? = some (.map ents clock) ∧ ents.size = es.length ∧
  ∀ i (hi : i < es.length), ∃ e, ents[i]? = some e ∧ e.key = key (es[i]).1 ∧ p1L ag w μ st e.val (es[i]).2
def ObR (w : World) (μ : Mu) (st : St) (m : Option (Nat × Nat)) : Ob → Prop
 | .arr _ n b es => i1j w μ st m n b es
 | .mps ag es => i0v (fun k => .string (bs k)) ag w μ st m es
 | .mpi ag k es => i0v (fun n => .int k n) ag w μ st m es
 | .sit s p => ∃ blk, m = some (blk, 0) ∧ w.heap[blk]? = some (.stringIter (bs s) p)
 | .resv => m = none
structure Sim (w : World) (μ : Mu) (st : St) : Prop where
 obj : ∀ o ob, st[o]? = some (some ob) → ObR w μ st (μ o) ob
 inj : ∀ o o' ob ob' blk b b', st[o]? = some (some ob) → st[o']? = some (some ob') → μ o = some (blk, b) → μ o' = some (blk, b') → o = o'
def d4J (w w' : World) (m m' : Option (Nat × Nat)) : Ob → Ob → Prop
 | .arr g n b es, .arr g' n' b' es' => g ≤ g' ∧ (g = g' → n' = n ∧ b' = b ∧ es'.length = es.length ∧ m' = m ∧
   ∀ blk base c ty, m = some (blk, base) → w.heap[blk]? = some (.cells c ty (0, 0)) → ∃ c', w'.heap[blk]? = some (.cells c' ty (0, 0)) ∧ c'.size = c.size)
 | .mps ag _, .mps ag' _ => ag = ag' ∧ m' = m
 | .mpi ag k _, .mpi ag' k' _ => ag = ag' ∧ k = k' ∧ m' = m
 | .sit _ _, .sit _ _ => m' = m
 | .resv, _ => True
 | _, _ => False
structure Step (w : World) (μ : Mu) (st : St) (w' : World) (μ' : Mu) (st' : St) : Prop where
 size : w.heap.size ≤ w'.heap.size
 os : w'.os = w.os
 output : w'.output = w.output
 tape : w'.tape = w.tape
 imm : ∀ blk, blk < w.heap.size → ¬ own μ st blk → w'.heap[blk]? = w.heap[blk]?
 own : ∀ blk, own μ' st' blk → own μ st blk ∨ w.heap.size ≤ blk
 len : st.length ≤ st'.length
 keep : ∀ o ob', o < st.length → st'[o]? = some (some ob') → ∃ ob, st[o]? = some (some ob) ∧ d4J w w' (μ o) (μ' o) ob ob'
theorem TR.mono {w w' : World} {own p9e : Nat → Prop} {v : Value} {d : D} (h : TR w own v d)
  (hk : ∀ blk, blk < w.heap.size → ¬ own blk → w'.heap[blk]? = w.heap[blk]? ∧ ¬ p9e blk) (hs : w.heap.size ≤ w'.heap.size) : TR w' p9e v d := by
 induction h with
 | any v h => exact .any v h
 | bool b => exact .bool b
 | int k n => exact .int k n
 | str s => exact .str s
 | i4m => exact .i4m
 | YP => exact .YP
 | d8Z => exact .d8Z
 | i8f => exact .i8f
 | sl full n b es a len cap cv hlen hcap i3R hb hb1 hn ha hc ih =>
  refine .sl full n b es a len cap cv hlen hcap i3R hb hb1 hn ?_ ih
  rcases ha with ha | ⟨blk, off, ea, i1X, hown, hcell⟩
  ·exact .inl ha
  ·obtain ⟨e1, e2⟩ := hk blk i1X hown
   refine .inr ⟨blk, off, ea, by omega, e2, fun i j hi hj => ?_⟩
   have := hcell i j hi hj
   simpa only [World.cell?, e1] using this
 | i0x cs blk off cv i1X hown ha hc ih =>
  obtain ⟨e1, e2⟩ := hk blk i1X hown
  exact .i0x cs blk off cv (by omega) e2 (fun j hj => by simpa only [World.cell?, e1] using ha j hj) ih
theorem i2E {w : World} {μ : Mu} {st : St} (hs : Sim w μ st) {blk : Nat} (h : own μ st blk) : blk < w.heap.size := by
 obtain ⟨o, ob, base, ho, hm⟩ := h
 have := hs.obj o ob ho
 cases ob with
 | arr g n b es =>
  have h2 : i1j w μ st (μ o) n b es := this
  rcases h2.loc with ⟨e, _⟩ | ⟨i2u, base', c, ty, e, hh, _⟩
  ·rw [hm] at e; cases e
  ·rw [hm] at e; cases e
   rcases Nat.lt_or_ge blk w.heap.size with h' | h'
   ·exact h'
   ·rw [Array.getElem?_eq_none h'] at hh; cases hh
 | mps ag es =>
  have h2 : i0v _ ag w μ st (μ o) es := this
  obtain ⟨i2u, ents, clock, e, hh, _⟩ := h2.loc
  rw [hm] at e; cases e
  rcases Nat.lt_or_ge blk w.heap.size with h' | h'
  ·exact h'
  ·rw [Array.getElem?_eq_none h'] at hh; cases hh
 | mpi ag k es =>
  have h2 : i0v _ ag w μ st (μ o) es := this
  obtain ⟨i2u, ents, clock, e, hh, _⟩ := h2.loc
  rw [hm] at e; cases e
  rcases Nat.lt_or_ge blk w.heap.size with h' | h'
  ·exact h'
  ·rw [Array.getElem?_eq_none h'] at hh; cases hh
 | sit s p =>
  obtain ⟨i2u, e, hh⟩ : ∃ blk, μ o = some (blk, 0) ∧ w.heap[blk]? = some (.stringIter (bs s) p) := this
  rw [hm] at e; cases e
  rcases Nat.lt_or_ge blk w.heap.size with h' | h'
  ·exact h'
  ·rw [Array.getElem?_eq_none h'] at hh; cases hh
 | resv =>
  have e : μ o = none := this
  rw [hm] at e; cases e
theorem d4J.refl (w : World) (m : Option (Nat × Nat)) (ob : Ob) : d4J w w m m ob ob := by
 cases ob with
 | arr g n b es => exact ⟨Nat.le_refl _, fun _ => ⟨rfl, rfl, rfl, rfl, fun blk base c ty _ hh => ⟨c, hh, rfl⟩⟩⟩
 | mps => exact ⟨rfl, rfl⟩
 | mpi => exact ⟨rfl, rfl, rfl⟩
 | sit => rfl
 | resv => trivial
theorem d4J.trans {w w' w'' : World} {m m' m'' : Option (Nat × Nat)} {a b c : Ob} (h1 : d4J w w' m m' a b) (h2 : d4J w' w'' m' m'' b c) : d4J w w'' m m'' a c := by
 cases a with
 | resv => cases c <;> trivial
 | mps => cases b <;> cases c <;> simp_all [d4J]
 | mpi => cases b <;> cases c <;> simp_all [d4J]
 | sit => cases b <;> cases c <;> simp_all [d4J]
 | arr g n b1 es =>
  cases b with
  | resv => exact h1.elim
  | mps => exact h1.elim
  | mpi => exact h1.elim
  | sit => exact h1.elim
  | arr g' n' b' es' =>
   cases c with
   | resv => exact h2.elim
   | mps => exact h2.elim
   | mpi => exact h2.elim
   | sit => exact h2.elim
   | arr g'' n'' b'' r2G =>
    obtain ⟨l1, k1⟩ := h1
    obtain ⟨l2, k2⟩ := h2
    refine ⟨Nat.le_trans l1 l2, fun e => ?_⟩
    have e1 : g = g' := by omega
    have e2 : g' = g'' := by omega
    obtain ⟨a1, a2, a3, a4, a5⟩ := k1 e1
    obtain ⟨b1, b2, b3, b4, b5⟩ := k2 e2
    refine ⟨b1.trans a1, b2.trans a2, b3.trans a3, b4.trans a4, fun blk base c ty hm hh => ?_⟩
    obtain ⟨c', hc', hs'⟩ := a5 blk base c ty hm hh
    obtain ⟨c'', hc'', r0g⟩ := b5 blk base c' ty (a4.trans hm) hc'
    exact ⟨c'', hc'', r0g.trans hs'⟩
theorem Step.refl (w : World) (μ : Mu) (st : St) : Step w μ st w μ st :=
 ⟨Nat.le_refl _, rfl, rfl, rfl, fun _ _ _ => rfl, fun _ h => .inl h, Nat.le_refl _, fun _ ob' _ h => ⟨ob', h, d4J.refl _ _ _⟩⟩
theorem Step.trans {w w' w'' : World} {μ μ' μ'' : Mu} {st st' i8V : St} (h1 : Step w μ st w' μ' st') (h2 : Step w' μ' st' w'' μ'' i8V) : Step w μ st w'' μ'' i8V where
 size := Nat.le_trans h1.size h2.size
 os := h2.os.trans h1.os
 output := h2.output.trans h1.output
 tape := h2.tape.trans h1.tape
 imm := fun blk hb hn => (h2.imm blk (Nat.lt_of_lt_of_le hb h1.size) (fun ho => by
  rcases h1.own blk ho with h | h
  ·exact hn h
  ·omega)).trans (h1.imm blk hb hn)
 own := fun blk ho => by
  rcases h2.own blk ho with h | h
  ·exact h1.own blk h
  ·exact .inr (Nat.le_trans h1.size h)
 len := Nat.le_trans h1.len h2.len
 keep := fun o r0h ho h => by
  obtain ⟨ob', h', s'⟩ := h2.keep o r0h (Nat.lt_of_lt_of_le ho h1.len) h
  obtain ⟨ob, h0, s0⟩ := h1.keep o ob' ho h'
  exact ⟨ob, h0, s0.trans s'⟩
theorem TR.step {w w' : World} {μ μ' : Mu} {st st' : St} {v : Value} {d : D} (h : TR w (own μ st) v d) (s : Step w μ st w' μ' st') : TR w' (own μ' st') v d :=
 h.mono (fun blk hb hn => ⟨s.imm blk hb hn, fun ho => by
  rcases s.own blk ho with h | h
  ·exact hn h
  ·omega⟩) s.size
theorem d9x.step {w w' : World} {m m' : Option (Nat × Nat)} {n g b : Nat} {es es' : List (List D)} {full : Bool} {off len : Nat} {v : Value} {n' b' : Nat}
  (h : d9x w m n es full off len v) (k : d4J w w' m m' (.arr g n b es) (.arr g n' b' es')) : d9x w' m' n' es' full off len v := by
 obtain ⟨_, k⟩ := k
 obtain ⟨rfl, rfl, k3, rfl, k5⟩ := k rfl
 obtain ⟨a, cap, e1, e2, e3, ef, e4⟩ := h
 refine ⟨a, cap, e1, e2, by omega, ef, ?_⟩
 rcases e4 with e4 | ⟨blk, base, em, ea, c, ty, hh, hs⟩
 ·exact .inl e4
 ·obtain ⟨c', hc', hs'⟩ := k5 blk base c ty em hh
  exact .inr ⟨blk, base, em, ea, c', ty, hc', by omega⟩
theorem i2v {w w' : World} {μ μ' : Mu} {st st' : St} (s : Step w μ st w' μ' st') {o : Nat} (ho : o < st.length)
  (hr : st[o]? ≠ some (some .resv)) : st'[o]? ≠ some (some .resv) := fun e => by
 obtain ⟨ob, h, k⟩ := s.keep o .resv ho e
 cases ob with
 | resv => exact hr h
 | arr => exact k.elim
 | mps => exact k.elim
 | mpi => exact k.elim
 | sit => exact k.elim
theorem VR.step {w w' : World} {μ μ' : Mu} {st st' : St} {v : Value} {d : D} (h : VR w μ st v d) (s : Step w μ st w' μ' st') : VR w' μ' st' v d := by
 induction h with
 | any v => exact .any v
 | tr h => exact .tr (h.step s)
 | agg vs cs hs hc ih => exact .agg vs cs hs ih
 | tup vs cs hs hc ih => exact .tup vs cs hs ih
 | fn f vf vc first cap hf hc hfc hcc ih1 ih2 => exact .fn f vf vc first cap hf hc ih1 ih2
 | ref v full o g off len hv ho hr hg h =>
  have back : ∀ g' n b es, st'[o]? = some (some (.arr g' n b es)) → ∃ g0 n0 b0 es0, st[o]? = some (some (.arr g0 n0 b0 es0)) ∧ d4J w w' (μ o) (μ' o) (.arr g0 n0 b0 es0) (.arr g' n b es) := by
   intro g' n b es e
   obtain ⟨ob, h0, k⟩ := s.keep o _ ho e
   cases ob with
   | arr g0 n0 b0 es0 => exact ⟨g0, n0, b0, es0, h0, k⟩
   | mps => exact k.elim
   | mpi => exact k.elim
   | sit => exact k.elim
   | resv => exact absurd h0 hr
  refine .ref v full o g off len hv (Nat.lt_of_lt_of_le ho s.len) (i2v s ho hr) (fun g' n b es e => ?_) (fun n b es e => ?_)
  ·obtain ⟨g0, n0, b0, es0, h0, k⟩ := back g' n b es e
   exact Nat.le_trans (hg g0 n0 b0 es0 h0) k.1
  ·obtain ⟨g0, n0, b0, es0, h0, k⟩ := back g n b es e
   have e1 : g0 = g := Nat.le_antisymm k.1 (hg g0 n0 b0 es0 h0)
   subst e1
   exact (h n0 b0 es0 h0).step k
 | ptr v o g i c hv ho hr hg h =>
  have back : ∀ g' n b es, st'[o]? = some (some (.arr g' n b es)) → ∃ g0 n0 b0 es0, st[o]? = some (some (.arr g0 n0 b0 es0)) ∧ d4J w w' (μ o) (μ' o) (.arr g0 n0 b0 es0) (.arr g' n b es) := by
   intro g' n b es e
   obtain ⟨ob, h0, k⟩ := s.keep o _ ho e
   cases ob with
   | arr g0 n0 b0 es0 => exact ⟨g0, n0, b0, es0, h0, k⟩
   | mps => exact k.elim
   | mpi => exact k.elim
   | sit => exact k.elim
   | resv => exact absurd h0 hr
  refine .ptr v o g i c hv (Nat.lt_of_lt_of_le ho s.len) (i2v s ho hr) (fun g' n b es e => ?_) (fun n b es e => ?_)
  ·obtain ⟨g0, n0, b0, es0, h0, k⟩ := back g' n b es e
   exact Nat.le_trans (hg g0 n0 b0 es0 h0) k.1
  ·obtain ⟨g0, n0, b0, es0, h0, k⟩ := back g n b es e
   have e1 : g0 = g := Nat.le_antisymm k.1 (hg g0 n0 b0 es0 h0)
   subst e1
   obtain ⟨_, k⟩ := k
   obtain ⟨rfl, rfl, k3, k4, k5⟩ := k rfl
   obtain ⟨blk, base, em, ev⟩ := h _ _ _ h0
   exact ⟨blk, base, k4.trans em, ev⟩
 | mp v o hv ho hr h1 h2 =>
  refine .mp v o hv (Nat.lt_of_lt_of_le ho s.len) (i2v s ho hr) (fun ag es e => ?_) (fun ag kk es e => ?_)
  ·obtain ⟨ob, h0, k⟩ := s.keep o _ ho e
   cases ob with
   | arr => exact k.elim
   | mps ag0 es0 =>
    obtain ⟨blk, em, ev⟩ := h1 ag0 es0 h0
    exact ⟨blk, (show μ' o = μ o from k.2).trans em, ev⟩
   | mpi => exact k.elim
   | sit => exact k.elim
   | resv => exact absurd h0 hr
  ·obtain ⟨ob, h0, k⟩ := s.keep o _ ho e
   cases ob with
   | arr => exact k.elim
   | mpi ag0 k0 es0 =>
    obtain ⟨blk, em, ev⟩ := h2 ag0 k0 es0 h0
    exact ⟨blk, (show μ' o = μ o from k.2.2).trans em, ev⟩
   | mps => exact k.elim
   | sit => exact k.elim
   | resv => exact absurd h0 hr
 | it v o hv ho hr h =>
  refine .it v o hv (Nat.lt_of_lt_of_le ho s.len) (i2v s ho hr) (fun s0 p e => ?_)
  obtain ⟨ob, h0, k⟩ := s.keep o _ ho e
  cases ob with
  | arr => exact k.elim
  | mps => exact k.elim
  | mpi => exact k.elim
  | sit s1 p1 =>
   obtain ⟨blk, em, ev⟩ := h s1 p1 h0
   exact ⟨blk, (show μ' o = μ o from k).trans em, ev⟩
  | resv => exact absurd h0 hr
 | cond v g d h h0 ih => exact .cond v g d ih h0
theorem p1L.step {ag : Bool} {w w' : World} {μ μ' : Mu} {st st' : St} {v : Value} {cs : List D} (h : p1L ag w μ st v cs) (s : Step w μ st w' μ' st') : p1L ag w' μ' st' v cs := by
 cases ag with
 | true => exact VR.step h s
 | false =>
  obtain ⟨d, e, h⟩ := h
  exact ⟨d, e, h.step s⟩
theorem ObR.step {w w' : World} {μ μ' : Mu} {st st' : St} {m : Option (Nat × Nat)} {ob : Ob} (h : ObR w μ st m ob) (s : Step w μ st w' μ' st')
  (hb : ∀ blk base, m = some (blk, base) → w'.heap[blk]? = w.heap[blk]?) : ObR w' μ' st' m ob := by
 cases ob with
 | arr g n b es =>
  obtain ⟨h1, h2, h3⟩ := (h : i1j w μ st m n b es)
  refine (⟨h1, h2, ?_⟩ : i1j w' μ' st' m n b es)
  rcases h3 with h3 | ⟨blk, base, c, ty, em, hh, hsz, hc⟩
  ·exact .inl h3
  ·refine .inr ⟨blk, base, c, ty, em, (hb blk base em).trans hh, hsz, fun i j hi hj => ?_⟩
   obtain ⟨v, e, hv, h1⟩ := hc i j hi hj
   exact ⟨v, e, hv.step s, h1⟩
 | mps ag es =>
  obtain ⟨blk, ents, clock, em, hh, hsz, hc⟩ := (h : i0v _ ag w μ st m es).loc
  refine (⟨⟨blk, ents, clock, em, (hb blk 0 em).trans hh, hsz, fun i hi => ?_⟩⟩ : i0v _ ag w' μ' st' m es)
  obtain ⟨e, e1, e2, e3⟩ := hc i hi
  exact ⟨e, e1, e2, e3.step s⟩
 | mpi ag k es =>
  obtain ⟨blk, ents, clock, em, hh, hsz, hc⟩ := (h : i0v _ ag w μ st m es).loc
  refine (⟨⟨blk, ents, clock, em, (hb blk 0 em).trans hh, hsz, fun i hi => ?_⟩⟩ : i0v _ ag w' μ' st' m es)
  obtain ⟨e, e1, e2, e3⟩ := hc i hi
  exact ⟨e, e1, e2, e3.step s⟩
 | sit t p =>
  obtain ⟨blk, em, hh⟩ := h
  exact ⟨blk, em, (hb blk 0 em).trans hh⟩
 | resv => exact h
theorem p3E {μ μ' : Mu} {st : St} {o : Nat} {x : Option Ob} {blk : Nat} (hμ : ∀ o', o' ≠ o → μ' o' = μ o') (h : own μ' (st.set o x) blk) :
  (∃ o' ob base, o' ≠ o ∧ st[o']? = some (some ob) ∧ μ o' = some (blk, base)) ∨ (∃ ob base, x = some ob ∧ μ' o = some (blk, base)) := by
 obtain ⟨o', ob, base, ho, hm⟩ := h
 by_cases e : o' = o
 ·subst e
  rw [List.getElem?_set] at ho
  simp only [if_true] at ho
  split at ho
  ·cases ho; exact .inr ⟨ob, base, rfl, hm⟩
  ·cases ho
 ·rw [List.getElem?_set_ne (Ne.symm e)] at ho
  exact .inl ⟨o', ob, base, e, ho, (hμ o' e) ▸ hm⟩
theorem d7G {w w' : World} {μ μ' : Mu} {st : St} {o : Nat} {ob ob' : Ob} (hs : Sim w μ st) (ho : st[o]? = some (some ob))
  (hμ : ∀ o', o' ≠ o → μ' o' = μ o')
  (i8W : ∀ blk, blk < w.heap.size → (∀ base, μ o ≠ some (blk, base)) → w'.heap[blk]? = w.heap[blk]?)
  (hsize : w.heap.size ≤ w'.heap.size) (hos : w'.os = w.os) (hout : w'.output = w.output) (p7T : w'.tape = w.tape)
  (i1X : ∀ blk base, μ' o = some (blk, base) → (∃ b0, μ o = some (blk, b0)) ∨ w.heap.size ≤ blk)
  (hstep : d4J w w' (μ o) (μ' o) ob ob')
  (hob : Step w μ st w' μ' (st.set o (some ob')) → ObR w' μ' (st.set o (some ob')) (μ' o) ob') :
  Sim w' μ' (st.set o (some ob')) ∧ Step w μ st w' μ' (st.set o (some ob')) := by
 have hlt : o < st.length := (List.getElem?_eq_some_iff.1 ho).1
 have other : ∀ o' ob1 blk base, o' ≠ o → st[o']? = some (some ob1) → μ o' = some (blk, base) → w'.heap[blk]? = w.heap[blk]? := by
  intro o' ob1 blk base hne h1 hm
  refine i8W blk (i2E hs ⟨o', ob1, base, h1, hm⟩) (fun b0 h0 => hne ?_)
  exact hs.inj o' o ob1 ob blk base b0 h1 ho hm h0
 have step : Step w μ st w' μ' (st.set o (some ob')) := by
  refine ⟨hsize, hos, hout, p7T, fun blk hb hn => i8W blk hb (fun base e => hn ⟨o, ob, base, ho, e⟩), fun blk hw => ?_, by simp, fun o' ob1 hl h1 => ?_⟩
  ·rcases p3E hμ hw with ⟨o', ob1, base, hne, h1, hm⟩ | ⟨ob1, base, _, hm⟩
   ·exact .inl ⟨o', ob1, base, h1, hm⟩
   ·rcases i1X blk base hm with ⟨b0, h0⟩ | h
    ·exact .inl ⟨o, ob, b0, ho, h0⟩
    ·exact .inr h
  ·by_cases e : o' = o
   ·subst e
    rw [List.getElem?_set_self hlt] at h1
    cases h1
    exact ⟨ob, ho, hstep⟩
   ·rw [List.getElem?_set_ne (Ne.symm e)] at h1
    refine ⟨ob1, h1, ?_⟩
    rw [hμ o' e]
    cases ob1 with
    | arr g n b es =>
     exact ⟨Nat.le_refl _, fun _ => ⟨rfl, rfl, rfl, rfl, fun blk base c ty hm hh => ⟨c, (other o' _ blk base e h1 hm).trans hh, rfl⟩⟩⟩
    | mps => exact ⟨rfl, rfl⟩
    | mpi => exact ⟨rfl, rfl, rfl⟩
    | sit => rfl
    | resv => trivial
 refine ⟨⟨fun o' ob1 h1 => ?_, fun o1 o2 ob1 ob2 blk b1 b2 h1 h2 m1 m2 => ?_⟩, step⟩
 ·by_cases e : o' = o
  ·subst e
   rw [List.getElem?_set_self hlt] at h1
   cases h1
   exact hob step
  ·rw [List.getElem?_set_ne (Ne.symm e)] at h1
   rw [hμ o' e]
   exact (hs.obj o' ob1 h1).step step (fun blk base hm => other o' ob1 blk base e h1 hm)
 ·by_cases e1 : o1 = o
  ·by_cases e2 : o2 = o
   ·rw [e1, e2]
   ·subst e1
    rw [List.getElem?_set_ne (Ne.symm e2)] at h2
    rw [hμ o2 e2] at m2
    rcases i1X blk b1 m1 with ⟨b0, h0⟩ | h
    ·exact hs.inj _ _ ob ob2 blk b0 b2 ho h2 h0 m2
    ·exact absurd (i2E hs ⟨o2, ob2, b2, h2, m2⟩) (by omega)
  ·rw [List.getElem?_set_ne (Ne.symm e1)] at h1
   rw [hμ o1 e1] at m1
   by_cases e2 : o2 = o
   ·subst e2
    rcases i1X blk b2 m2 with ⟨b0, h0⟩ | h
    ·exact hs.inj _ _ ob1 ob blk b1 b0 h1 ho m1 h0
    ·exact absurd (i2E hs ⟨o1, ob1, b1, h1, m1⟩) (by omega)
   ·rw [List.getElem?_set_ne (Ne.symm e2)] at h2
    rw [hμ o2 e2] at m2
    exact hs.inj _ _ ob1 ob2 blk b1 b2 h1 h2 m1 m2
def upd (μ : Mu) (o : Nat) (m : Option (Nat × Nat)) : Mu := fun o' => if o' = o then m else μ o'
theorem ZS (μ : Mu) (o : Nat) (m : Option (Nat × Nat)) : upd μ o m o = m := by simp [upd]
theorem d3k (μ : Mu) (o : Nat) (m : Option (Nat × Nat)) {o' : Nat} (h : o' ≠ o) : upd μ o m o' = μ o' := by simp [upd, h]
theorem i8g {w : World} {μ : Mu} {st : St} (hs : Sim w μ st) :
  Sim w (upd μ st.length none) (st ++ [some .resv]) ∧ Step w μ st w (upd μ st.length none) (st ++ [some .resv]) := by
 have look : ∀ o ob, (st ++ [some Ob.resv])[o]? = some (some ob) → (o < st.length ∧ st[o]? = some (some ob)) ∨ (o = st.length ∧ ob = .resv) := by
  intro o ob h
  rcases Nat.lt_or_ge o st.length with hl | hl
  ·rw [List.getElem?_append_left hl] at h; exact .inl ⟨hl, h⟩
  ·rw [List.getElem?_append_right hl] at h
   have : o - st.length = 0 := by
    rcases Nat.eq_zero_or_pos (o - st.length) with h0 | h0
    ·exact h0
    ·rw [List.getElem?_eq_none (by simp; omega)] at h; cases h
   rw [this] at h
   simp at h
   exact .inr ⟨by omega, h.symm⟩
 have step : Step w μ st w (upd μ st.length none) (st ++ [some .resv]) := by
  refine ⟨Nat.le_refl _, rfl, rfl, rfl, fun _ _ _ => rfl, fun blk hw => ?_, by simp, fun o ob hl h => ?_⟩
  ·obtain ⟨o, ob, base, h, hm⟩ := hw
   rcases look o ob h with ⟨hl, h⟩ | ⟨e, _⟩
   ·rw [d3k μ _ _ (by omega)] at hm; exact .inl ⟨o, ob, base, h, hm⟩
   ·subst e; rw [ZS] at hm; cases hm
  ·rw [List.getElem?_append_left hl] at h
   refine ⟨ob, h, ?_⟩
   rw [d3k μ _ _ (by omega)]
   exact d4J.refl _ _ _
 refine ⟨⟨fun o ob h => ?_, fun o1 o2 ob1 ob2 blk b1 b2 h1 h2 m1 m2 => ?_⟩, step⟩
 ·rcases look o ob h with ⟨hl, h⟩ | ⟨e, e2⟩
  ·rw [d3k μ _ _ (by omega)]
   exact (hs.obj o ob h).step step (fun _ _ _ => rfl)
  ·subst e; subst e2; exact ZS _ _ _
 ·rcases look o1 ob1 h1 with ⟨l1, h1⟩ | ⟨e, _⟩
  ·rcases look o2 ob2 h2 with ⟨l2, h2⟩ | ⟨e, _⟩
   ·rw [d3k μ _ _ (by omega)] at m1 m2
    exact hs.inj _ _ _ _ _ _ _ h1 h2 m1 m2
   ·subst e; rw [ZS] at m2; cases m2
  ·subst e; rw [ZS] at m1; cases m1
theorem d4q {w : World} {o : Obj} {blk : Nat} (h : blk < w.heap.size) : (w.alloc o).heap[blk]? = w.heap[blk]? := by
 simp only [World.alloc, Array.getElem?_push]
 rw [if_neg (by omega)]
theorem heap_alloc_new (w : World) (o : Obj) : (w.alloc o).heap[w.heap.size]? = some o := by
 show (w.heap.push o)[w.heap.size]? = some o
 simp
theorem d7u {w : World} {μ : Mu} {st : St} {q : Nat} {x : Obj} {ob : Ob} (hs : Sim w μ st) (hq : st[q]? = some (some .resv))
  (hob : Step w μ st (w.alloc x) (upd μ q (some (w.heap.size, 0))) (st.set q (some ob)) →
   ObR (w.alloc x) (upd μ q (some (w.heap.size, 0))) (st.set q (some ob)) (some (w.heap.size, 0)) ob) :
  Sim (w.alloc x) (upd μ q (some (w.heap.size, 0))) (st.set q (some ob)) ∧ Step w μ st (w.alloc x) (upd μ q (some (w.heap.size, 0))) (st.set q (some ob)) := by
 refine d7G hs hq (fun o' h => d3k _ _ _ h) (fun blk hb _ => d4q hb) (by simp) rfl rfl rfl (fun blk base e => ?_) trivial (fun s => by rw [ZS]; exact hob s)
 rw [ZS] at e; cases e; exact .inr (Nat.le_refl _)
theorem i2F {w : World} {μ : Mu} {st : St} {q g n b : Nat} {es : List (List D)} {cells : Array Value} {ty : TypeId}
  (i9O : ∀ i j (hi : i < es.length) (hj : j < (es[i]).length), ∃ v, cells[i * n + j]? = some v ∧ VR w μ st v ((es[i])[j]) ∧ v.oneCell' = true)
  (hsz : es.length * n ≤ cells.size) (hn : ∀ e ∈ es, e.length = n) (hb : es.length * b ≤ top)
  (s : Step w μ st (w.alloc (.cells cells ty)) (upd μ q (some (w.heap.size, 0))) (st.set q (some (.arr g n b es)))) :
  ObR (w.alloc (.cells cells ty)) (upd μ q (some (w.heap.size, 0))) (st.set q (some (.arr g n b es))) (some (w.heap.size, 0)) (.arr g n b es) := by
 refine (⟨hb, hn, .inr ⟨w.heap.size, 0, cells, ty, rfl, heap_alloc_new _ _, by omega, fun i j hi hj => ?_⟩⟩ : i1j _ _ _ _ _ _ _)
 obtain ⟨v, e, hv, h1⟩ := i9O i j hi hj
 exact ⟨v, by rw [Nat.zero_add]; exact e, hv.step s, h1⟩
inductive TK where
 | none
 | slice (e : Nat)
 | str
 | struct (fs : List (Nat × Nat × Bool))
 | arr (len e : Nat)
 | map (k e : Nat)
 | ptr (e : Nat)
 | int (k : IntKind)
 | bool
 | other
structure TI where
 size : Nat
 bytes : Nat
 zero : List D
 dfl : List D
 zv : Option D
 k : TK
def TK.agg : TK → Bool
 | .struct _ | .arr _ _ => true
 | _ => false
def d9S : Value → D
 | .bool b => .bool b
 | .int k n => .int k n
 | .string s => .str s.data.toList
 | .pointer none => .i4m
 | .slice a l c => if a = none ∧ l = 0 ∧ c = 0 then .YP else .any
 | .nilFunc => .d8Z
 | .map none => .i8f
 | .func (.func f) a c => if a.size = 0 ∧ c.size = 0 then .fn f [] [] else .any
 | _ => .any
def p1O : Value → D
 | .agg cs => .agg (cs.toList.map d9S)
 | v => d9S v
def d6j : Option TypeDesc → Bool
 | some (.struct _) | some (.array _ _) => true
 | _ => false
def fsz (P : Program) (t : TypeId) : Nat :=
 match P.info? t, P.underlying t with
 | some i, some _ => i.size
 | _, _ => 0
def kindOf (P : Program) : Option TypeDesc → TK
 | some (.slice e) => .slice e
 | some .string => .str
 | some (.struct fs) => .struct (fs.toList.map fun f => (f.offset, fsz P f.type, d6j (P.underlying f.type)))
 | some (.array n e) => .arr n e
 | some (.map k e) => .map k e
 | some (.pointer e) => .ptr e
 | some (.int k) => .int k
 | some .bool => .bool
 | some _ => .other
 | Option.none => .none
def fby (P : Program) (t : TypeId) : Nat :=
 match P.info? t with
 | some i => i.bytes
 | Option.none => 0
def i4V (P : Program) : Nat → TypeId → List D
 | 0, _ => []
 | n + 1, t => match P.underlying t with
  | some (.slice e) => [.sl false (fsz P e) (fby P e) []]
  | some (.struct fs) => (fs.toList.map fun f => i4V P n f.type).flatten
  | some (.array m e) => (List.replicate (if m ≤ 64 then m else 0) (i4V P n e)).flatten
  | _ => match P.info? t with
   | some i => (i.zero.map fun v => v.cells.toList.map d9S).getD []
   | Option.none => []
def Yk (P : Program) (t : TypeId) : TI :=
 match P.info? t with
 | some i => { size := i.size, bytes := i.bytes, zero := (i.zero.map fun v => v.cells.toList.map d9S).getD [], dfl := i4V P 12 t, zv := i.zero.map p1O, k := kindOf P (P.underlying t) }
 | Option.none => { size := 0, bytes := 0, zero := [], dfl := [], zv := none, k := .none }
abbrev Fr := List (Nat × D)
def Fr.get : Fr → Nat → D
 | [], _ => .any
 | (k, d) :: r, t => if k = t then d else Fr.get r t
def Fr.put : Fr → Nat → D → Fr
 | [], t, d => [(t, d)]
 | (k, e) :: r, t, d => if k = t then (k, d) :: r else (k, e) :: Fr.put r t d
def Fr.d8m (fr : Fr) : Option Nat → D → Fr
 | none, _ => fr
 | some t, d => fr.put t d
def Fr.only (keep : List Nat) : Fr → Fr
 | [] => []
 | (k, d) :: r => if keep.contains k then (k, d) :: Fr.only keep r else Fr.only keep r
structure Gl where
 tab : Nat → Option (List D)
 imm : TypeId → Bool
instance : CoeFun Gl (fun _ => Nat → Option (List D)) := ⟨Gl.tab⟩
def ev (G : Gl) (fr : Fr) : Operand → D
 | .tmp t => fr.get t
 | .const v => p1O v
 | .global g => match G g with
  | some cs => .i0x cs
  | none => .any
 | .func f => .fn f [] []
structure LR where
 d : D
 ok : Prop
 rd : List Nat := []
 up : Option (Nat × Ob) := none
 new : Option Ob := none
def LR.bad : LR := { d := .any, ok := False }
def mkv (agg : Bool) (cs : List D) : D := if agg then .agg cs else cs.headD .any
def D.one : D → Bool
 | .any | .agg _ | .tup _ | .cond _ _ => false
 | _ => true
abbrev Look := Nat → Option Ob
def look (st : St) : Look := fun o => (st[o]?).join
def i3S (i : TI) (lk : Look) : D → LR
 | .ptr o g k c => match lk o with
  | some (.arr g' n _ es) => { d := mkv i.k.agg (((es.getD k []).drop c).take i.size), ok := g' = g ∧ k < es.length ∧ c + i.size ≤ n ∧ (i.k.agg = false → i.size = 1), rd := [o] }
  | _ => .bad
 | .i0x cs => { d := mkv i.k.agg (cs.take i.size), ok := i.size ≤ cs.length ∧ (i.k.agg = false → i.size = 1) }
 | _ => .bad
def cellsOf (i : TI) (x : D) : List D := if i.k.agg then (match x with | .agg cs => cs | _ => []) else [x]
def d6k (i : TI) (x : D) : Prop :=
 if i.k.agg then (match x with | .agg cs => cs.length = i.size ∧ cs.all D.one = true | _ => False) else (x.one = true ∧ i.size = 1)
def splice (cs : List D) (c : Nat) (new : List D) : List D := cs.take c ++ new ++ cs.drop (c + new.length)
def d9T (i : TI) (lk : Look) (x : D) : D → LR
 | .ptr o g k c => match lk o with
  | some (.arr g' n b es) => { d := .any, ok := g' = g ∧ k < es.length ∧ c + i.size ≤ n ∧ d6k i x, rd := [o], up := some (o, .arr g' n b (es.set k (splice (es.getD k []) c (cellsOf i x)))) }
  | _ => .bad
 | _ => .bad
def p5L (i : TI) (q : Nat) (x : D) : LR :=
 { d := .ptr q 0 0 0, ok := d6k i x, new := some (.arr 0 i.size 0 [cellsOf i x]) }
def i4n (i : TI) (q : Nat) : LR :=
 { d := .ptr q 0 0 0, ok := i.zero.length = i.size ∧ i.size ≠ 0 ∧ i.zero.all D.one = true, new := some (.arr 0 i.size 0 [i.zero]) }
def d3K (i : TI) (f : Nat) : D → LR
 | .ptr o g k c => match i.k with
  | .struct fs => match fs[f]? with
   | some (off, sz, _) => { d := .ptr o g k (c + off), ok := sz ≠ 0 }
   | none => .bad
  | _ => .bad
 | .i0x cs => match i.k with
  | .struct fs => match fs[f]? with
   | some (off, sz, _) => { d := .i0x (cs.drop off), ok := sz ≠ 0 ∧ off < cs.length }
   | none => .bad
  | _ => .bad
 | _ => .bad
def i0y (i : TI) (f : Nat) : D → LR
 | .agg cs => match i.k with
  | .struct fs => match fs[f]? with
   | some (off, sz, ag) => { d := mkv ag ((cs.drop off).take sz), ok := off + sz ≤ cs.length ∧ sz ≠ 0 ∧ (ag = false → sz = 1) }
   | none => .bad
  | _ => .bad
 | _ => .bad
def rowAt (cs : List D) (k n : Nat) : List D := (cs.drop (k * n)).take n
theorem i8X (a : D) (cs : List D) (k n : Nat) : rowAt (a :: cs) k n = ((a :: cs).drop (k * n)).take n := rfl
def d1r (i : TI) (e : TI) (lk : Look) (x : D) : D → LR
 | .int _ m => match i.k, x with
  | .slice _, .sl _ n _ es => { d := .i0x (es.getD m.toNat e.dfl), ok := 0 ≤ m ∧ m < es.length ∧ n = e.size ∧ e.size ≠ 0 }
  | .slice _, .ref _ o g off len => match lk o with
   | some (.arr g' n _ es) => { d := .ptr o g (off + m.toNat) 0, ok := 0 ≤ m ∧ m < len ∧ g' = g ∧ n = e.size ∧ off + len ≤ es.length ∧ e.size ≠ 0, rd := [o] }
   | _ => .bad
  | .arr len _, .ptr o g k c => { d := .ptr o g k (c + m.toNat * e.size), ok := 0 ≤ m ∧ m < len ∧ 2 ≤ len ∧ e.size ≠ 0 }
  | .arr len _, .i0x cs => { d := .i0x (rowAt cs m.toNat e.size), ok := 0 ≤ m ∧ m < len ∧ 2 ≤ len ∧ e.size ≠ 0 }
  | _, _ => .bad
 | _ => .bad
def Yu (s : Bs) (i : Int) : Int := ((s.getD i.toNat 0).toNat : Int)
def d7v (i : TI) (e : TI) (x : D) : D → LR
 | .int _ m => match i.k, x with
  | .str, .str s => { d := .int .u8 (Yu s m), ok := 0 ≤ m ∧ m < s.length }
  | .arr len _, .agg cs => { d := mkv e.k.agg ((cs.drop (m.toNat * e.size)).take e.size), ok := 0 ≤ m ∧ m < len ∧ m.toNat * e.size + e.size ≤ cs.length ∧ e.k ≠ .none ∧ (e.k.agg = false → e.size = 1) }
  | _, _ => .bad
 | _ => .bad
def i5Q (cs : List D) : List (Nat × List D) → List D
 | [] => cs
 | (off, new) :: r => i5Q (splice cs off new) r
theorem d0A {st : St} {o : Nat} {ob : Ob} (h : look st o = some ob) : st[o]? = some (some ob) := by
 unfold look at h
 cases e : st[o]? with
 | none => rw [e] at h; cases h
 | some x => rw [e] at h; cases x with
  | none => cases h
  | some y => cases h; rfl
theorem d7S (b o j : Nat) : (⟨b, o, none⟩ : Addr).add j = ⟨b, o + j, none⟩ := by unfold Addr.add; split <;> simp_all
theorem d9y {P : Program} {t : TypeId} (h : (Yk P t).k ≠ .none) : ∃ inf u, P.info? t = some inf ∧ P.underlying t = some u ∧
  (Yk P t).size = inf.size ∧ (Yk P t).bytes = inf.bytes ∧ (Yk P t).k = kindOf P (some u) ∧ (Yk P t).zero = (inf.zero.map fun v => v.cells.toList.map d9S).getD [] := by
 unfold Yk at *
 cases hi : P.info? t with
 | none => rw [hi] at h; exact absurd rfl h
 | some inf =>
  rw [hi] at h
  cases hu : P.underlying t with
  | none => rw [hu] at h; exact absurd rfl h
  | some u => exact ⟨inf, u, rfl, rfl, rfl, rfl, rfl, rfl⟩
theorem i4o (P : Program) (u : TypeDesc) : (kindOf P (some u)).agg = d6j (some u) := by cases u <;> rfl
theorem ZE {P : Program} {t : TypeId} {inf : TypeInfo} (h : P.info? t = some inf) (w : World) : (sizeOf t).run P w = .ok inf.size w := by
 simp [sizeOf, typeInfo, h]
theorem d9z {P : Program} {t : TypeId} {u : TypeDesc} (h : P.underlying t = some u) (w : World) : (isAgg t).run P w = .ok (d6j (some u)) w := by
 cases u <;> simp [isAgg, run_underlying h, d6j]
def Reads (w : World) (μ : Mu) (st : St) (a : Addr) (cs : List D) : Prop := ∀ j (h : j < cs.length), ∃ v, w.cell? (a.add j) = some v ∧ VR w μ st v (cs[j])
theorem Reads.take {w : World} {μ : Mu} {st : St} {a : Addr} {cs : List D} (h : Reads w μ st a cs) (n : Nat) : Reads w μ st a (cs.take n) := fun j hj => by
 simp only [List.length_take] at hj
 obtain ⟨v, e, hv⟩ := h j (by omega)
 exact ⟨v, e, by simpa using hv⟩
theorem i0z {P : Program} {t : TypeId} {w : World} {μ : Mu} {st : St} {a : Addr} {cs : List D} (hr : Reads w μ st a cs)
  (hsz : (Yk P t).size = cs.length) (hk : (Yk P t).k ≠ .none) (h1 : (Yk P t).k.agg = false → (Yk P t).size = 1) :
  ∃ v, (loadVar t a).run P w = .ok v w ∧ VR w μ st v (mkv (Yk P t).k.agg cs) := by
 obtain ⟨inf, u, hi, hu, es, _, ek, _⟩ := d9y hk
 have ea : (Yk P t).k.agg = d6j (some u) := by rw [ek, i4o]
 rw [ea] at h1 ⊢
 have p5c := d9z hu w
 cases hA : d6j (some u) with
 | false =>
  have hl : cs.length = 1 := by rw [← hsz]; exact h1 hA
  obtain ⟨v, e, hv⟩ := hr 0 (by omega)
  have e0 : a.add 0 = a := by simp [Addr.add]
  rw [e0] at e
  refine ⟨v, ?_, ?_⟩
  ·simp [loadVar, p5c, hA, e]
  ·obtain ⟨c, rfl⟩ := List.length_eq_one_iff.1 hl
   exact hv
 | true =>
  have hf : ∀ j, ∃ v, j < cs.length → w.cell? (a.add j) = some v ∧ ∀ h : j < cs.length, VR w μ st v (cs[j]) := fun j => by
   by_cases hj : j < cs.length
   ·obtain ⟨v, e, hv⟩ := hr j hj
    exact ⟨v, fun _ => ⟨e, fun _ => hv⟩⟩
   ·exact ⟨undef, fun h => absurd h hj⟩
  obtain ⟨f, hf⟩ := Classical.axiomOfChoice hf
  have hl := run_loadCells (P := P) w a cs.length f (fun j hj => (hf j hj).1)
  refine ⟨.agg ((List.range cs.length).map f).toArray, ?_, ?_⟩
  ·simp [loadVar, p5c, hA, ZE hi, ← es, hsz, hl]
  ·refine .agg _ _ (by simp) (fun j hj => ?_)
   have := (hf j hj).2 hj
   simpa [hj] using this
theorem i9P {w : World} {μ : Mu} {st : St} {v : Value} {o g k c n b : Nat} {es : List (List D)} (hs : Sim w μ st) (hv : VR w μ st v (.ptr o g k c))
  (hl : look st o = some (.arr g n b es)) (hk : k < es.length) :
  ∃ blk base cells ty, v = .pointer (some ⟨blk, base + (k * n + c), none⟩) ∧ μ o = some (blk, base) ∧ w.heap[blk]? = some (.cells cells ty (0, 0)) ∧
   base + es.length * n ≤ cells.size ∧ (es[k]).length = n ∧ ∀ j (hj : j < (es[k]).length), ∃ u, cells[base + (k * n + j)]? = some u ∧ VR w μ st u ((es[k])[j]) ∧ u.oneCell' = true := by
 have ho := d0A hl
 obtain ⟨hb, hn, p3F⟩ := (hs.obj o _ ho : i1j w μ st (μ o) n b es)
 cases hv with
 | tr h => cases h
 | ptr _ _ _ _ _ _ _ _ _ h =>
  obtain ⟨blk, base, em, ev⟩ := h n b es ho
  rcases p3F with ⟨e, _⟩ | ⟨i2u, base', cells, ty, em', hh, hsz, hc⟩
  ·rw [em] at e; cases e
  ·rw [em] at em'; cases em'
   exact ⟨blk, base, cells, ty, ev, em, hh, hsz, hn _ (List.getElem_mem hk), fun j hj => hc k j hk hj⟩
theorem getD_eq {es : List (List D)} {k : Nat} (h : k < es.length) : es.getD k [] = es[k] := by simp [List.getD, h]
theorem i9Q {w : World} {μ : Mu} {st : St} {v : Value} {o g k c n b : Nat} {es : List (List D)} (hs : Sim w μ st) (hv : VR w μ st v (.ptr o g k c))
  (hl : look st o = some (.arr g n b es)) (hk : k < es.length) : ∃ a, v = .pointer (some a) ∧ Reads w μ st a ((es.getD k []).drop c) := by
 obtain ⟨blk, base, cells, ty, ev, em, hh, hsz, hlen, hc⟩ := i9P hs hv hl hk
 refine ⟨_, ev, fun j hj => ?_⟩
 rw [getD_eq hk] at hj
 simp only [List.length_drop] at hj
 obtain ⟨u, eu, hu, _⟩ := hc (c + j) (by omega)
 refine ⟨u, ?_, ?_⟩
 ·rw [d7S]
  simp only [World.cell?, hh]
  rw [show base + (k * n + c) + j = base + (k * n + (c + j)) by omega]
  simpa using eu
 ·simp only [getD_eq hk, List.getElem_drop]; exact hu
theorem i4p {w : World} {μ : Mu} {st : St} {v : Value} {cs : List D} (hv : VR w μ st v (.i0x cs)) : ∃ a, v = .pointer (some a) ∧ Reads w μ st a cs := by
 cases hv with
 | tr h =>
  cases h with
  | i0x _ blk off cv i1X hown ha hc =>
   refine ⟨_, rfl, fun j hj => ⟨cv j, ?_, .tr (hc j hj)⟩⟩
   rw [d7S]; exact ha j hj
theorem i4q {P : Program} {t : TypeId} {w : World} {μ : Mu} {st : St} {va : Value} {a : D} (hs : Sim w μ st) (hv : VR w μ st va a)
  (hok : (i3S (Yk P t) (look st) a).ok) (p9f : (Yk P t).k ≠ .none) :
  ∃ v, (Instr.loadAt t va).run P w = .ok v w ∧ VR w μ st v (i3S (Yk P t) (look st) a).d := by
 cases a with
 | ptr o g k c =>
  simp only [i3S] at *
  cases hl : look st o with
  | none => rw [hl] at hok; exact hok.elim
  | some ob =>
   rw [hl] at hok
   cases ob with
   | arr g' n b es =>
    obtain ⟨rfl, hk, hcn, h1⟩ := hok
    obtain ⟨ad, e, hr⟩ := i9Q hs hv hl hk
    subst e
    have hlen : (es[k]).length = n := by
     have ho := d0A hl
     exact (hs.obj o _ ho : i1j w μ st (μ o) n b es).hn _ (List.getElem_mem hk)
    have := i0z (P := P) (t := t) (hr.take (Yk P t).size) (by simp only [getD_eq hk, List.length_take, List.length_drop, hlen]; omega) p9f h1
    obtain ⟨v, e1, e2⟩ := this
    exact ⟨v, by simpa [Instr.loadAt, Instr.sureAddr] using e1, e2⟩
   | mps => exact hok.elim
   | mpi => exact hok.elim
   | sit => exact hok.elim
   | resv => exact hok.elim
 | i0x cs =>
  obtain ⟨hle, h1⟩ := hok
  obtain ⟨ad, e, hr⟩ := i4p hv
  subst e
  obtain ⟨v, e1, e2⟩ := i0z (P := P) (t := t) (hr.take (Yk P t).size) (by simp only [List.length_take]; omega) p9f h1
  exact ⟨v, by simpa [Instr.loadAt, Instr.sureAddr] using e1, e2⟩
 | _ => exact hok.elim
theorem i0A {w : World} {μ : Mu} {st : St} {v : Value} {d : D} (h : VR w μ st v d) (h1 : d.one = true) : v.oneCell' = true := by
 cases h with
 | any => simp [D.one] at h1
 | tr h => cases h <;> first | rfl | (simp [D.one] at h1)
 | agg => simp [D.one] at h1
 | tup => simp [D.one] at h1
 | fn => rfl
 | ref _ _ _ _ _ _ hv => obtain ⟨a, l, c, rfl⟩ := hv; rfl
 | ptr _ _ _ _ _ hv => obtain ⟨a, rfl⟩ := hv; rfl
 | mp _ _ hv => obtain ⟨a, rfl⟩ := hv; rfl
 | it _ _ hv => obtain ⟨a, rfl⟩ := hv; rfl
 | cond => simp [D.one] at h1
theorem i0i {w : World} {μ : Mu} {st : St} {v : Value} {i : TI} {x : D} (h : VR w μ st v x) (hok : d6k i x) :
  v.cells.size = i.size ∧ (cellsOf i x).length = i.size ∧ (∀ j (hj : j < (cellsOf i x).length), ∃ u, v.cells[j]? = some u ∧ VR w μ st u ((cellsOf i x)[j]) ∧ u.oneCell' = true) := by
 unfold d6k at hok
 unfold cellsOf
 split at hok
 ·rename_i p5c
  cases x with
  | agg cs =>
   obtain ⟨hl, hall⟩ := hok
   simp only [p5c, if_true]
   cases h with
   | tr h => cases h
   | agg vs _ hsz hc =>
    refine ⟨by simpa [Value.cells, hsz] using hl, hl, fun j hj => ?_⟩
    have hv := hc j hj
    have hjs : j < vs.size := by omega
    refine ⟨vs[j], by simp [Value.cells, hjs], by simpa [hjs] using hv, i0A (by simpa [hjs] using hv) ?_⟩
    exact List.all_eq_true.1 hall _ (List.getElem_mem hj)
  | _ => exact hok.elim
 ·rename_i p5c
  obtain ⟨h1, hsz⟩ := hok
  have i9R := i0A h h1
  have hcs : v.cells = #[v] := by cases v <;> first | rfl | (simp [Value.oneCell'] at i9R)
  simp only [p5c]
  refine ⟨by rw [hcs, hsz]; rfl, by simp [hsz], fun j hj => ?_⟩
  simp at hj
  subst hj
  exact ⟨v, by rw [hcs]; rfl, by simpa using h, i9R⟩
theorem d1u {P : Program} {t : TypeId} (h : (Yk P t).size ≠ 0) : ∃ inf, P.info? t = some inf ∧ (Yk P t).size = inf.size := by
 unfold Yk at *
 cases hi : P.info? t with
 | none => rw [hi] at h; exact absurd rfl h
 | some inf => exact ⟨inf, rfl, rfl⟩
theorem p3a {n i j k : Nat} (hj : j < n) (hne : i ≠ k) : i * n + j < k * n ∨ k * n + n ≤ i * n + j := by
 rcases Nat.lt_or_gt_of_ne hne with h | h
 ·left
  have : (i + 1) * n ≤ k * n := Nat.mul_le_mul_right n h
  rw [Nat.add_mul] at this
  omega
 ·right
  have : (k + 1) * n ≤ i * n := Nat.mul_le_mul_right n h
  rw [Nat.add_mul] at this
  omega
theorem i6W {α : Type} (cur vs : List α) (p q : Nat) (hp : p + vs.length ≤ cur.length) :
  (cur.take p ++ vs ++ cur.drop (p + vs.length))[q]? = if p ≤ q ∧ q < p + vs.length then vs[q - p]? else cur[q]? := by
 rw [List.append_assoc, List.getElem?_append]
 simp only [List.length_take]
 have hm : min p cur.length = p := by omega
 rw [hm]
 by_cases h1 : q < p
 ·rw [if_pos h1, if_neg (by omega), List.getElem?_take]; simp [h1]
 ·rw [if_neg h1, List.getElem?_append]
  by_cases h2 : q < p + vs.length
  ·rw [if_pos (by omega), if_pos (by omega)]
  ·rw [if_neg (by omega), if_neg (by omega), List.getElem?_drop]
   congr 1; omega
theorem d5i {cs new : List D} {c : Nat} (h : c + new.length ≤ cs.length) : (splice cs c new).length = cs.length := by
 unfold splice; simp; omega
theorem i4r {cs new : List D} {c : Nat} (h : c + new.length ≤ cs.length) (j : Nat) :
  (splice cs c new)[j]? = if c ≤ j ∧ j < c + new.length then new[j - c]? else cs[j]? := by
 unfold splice; exact i6W cs new c j h
theorem i6X {P : Program} {t : TypeId} {w : World} {μ : Mu} {st : St} {va vx : Value} {a x : D} {r : LR} (hs : Sim w μ st) (hv : VR w μ st va a) (hx : VR w μ st vx x)
  (hr : r = d9T (Yk P t) (look st) x a) (hok : r.ok) (hk : (Yk P t).k ≠ .none) :
  ∃ w' o ob, (Instr.storeAt t va vx).run P w = .ok () w' ∧ r.up = some (o, ob) ∧ Sim w' μ (st.set o (some ob)) ∧ Step w μ st w' μ (st.set o (some ob)) := by
 subst hr
 cases a with
 | ptr o g k c =>
  simp only [d9T] at *
  cases hl : look st o with
  | none => rw [hl] at hok; exact hok.elim
  | some ob =>
   rw [hl] at hok
   cases ob with
   | arr g' n b es =>
    obtain ⟨rfl, hkl, hcn, r0i⟩ := hok
    obtain ⟨blk, base, cells, ty, ev, em, hh, hsz, hlen, hc⟩ := i9P hs hv hl hkl
    subst ev
    have ho := d0A hl
    obtain ⟨hb, hn, p3F⟩ := (hs.obj o _ ho : i1j w μ st (μ o) n b es)
    obtain ⟨c1, c2, c3⟩ := i0i hx r0i
    obtain ⟨inf, u, hi, hu, esz, _⟩ := d9y hk
    have hvl : vx.cells.toList.length = (Yk P t).size := by simpa using c1
    have hkn : k * n + n ≤ es.length * n := by
     have : (k + 1) * n ≤ es.length * n := Nat.mul_le_mul_right n hkl
     rw [Nat.add_mul] at this; omega
    have i9R : ∀ v ∈ vx.cells.toList, v.oneCell' = true := fun v hv => by
     obtain ⟨j, hj, e⟩ := List.getElem_of_mem hv
     obtain ⟨u, eu, _, hu⟩ := c3 j (by simp at hj; omega)
     have : vx.cells[j]? = some v := by rw [← e]; simp at hj; simp [hj]
     rw [this] at eu; cases eu; exact hu
    have hrun := run_storeCells_at (P := P) blk (base + (k * n + c)) ty vx.cells.toList 0 cells w hh (by rw [hvl]; omega) i9R
    have p3G := getD_eq hkl
    have p5d : (splice es[k] c (cellsOf (Yk P t) x)).length = n := by rw [d5i (by rw [hlen, c2]; exact hcn), hlen]
    let d9U : Array Value := (cells.toList.take (base + (k * n + c) + 0) ++ vx.cells.toList ++ cells.toList.drop (base + (k * n + c) + 0 + vx.cells.toList.length)).toArray
    have hsize' : d9U.size = cells.size := by simp [d9U]; omega
    have hh' : (w.setRow blk d9U).heap[blk]? = some (.cells d9U ty (0, 0)) := setRow_heap w blk cells d9U ty (0, 0) hh
    have hget : ∀ q, d9U[q]? = if base + (k * n + c) ≤ q ∧ q < base + (k * n + c) + (Yk P t).size then vx.cells[q - (base + (k * n + c))]? else cells[q]? := fun q => by
     have := i6W cells.toList vx.cells.toList (base + (k * n + c)) q (by rw [hvl]; simp; omega)
     simp only [d9U, List.getElem?_toArray, Nat.add_zero]
     rw [this, hvl]; simp
    refine ⟨w.setRow blk d9U, o, _, ?_, rfl, ?_⟩
    ·simp only [Instr.storeAt, Instr.sureAddr, storeVar, Sem.run_bind, Sem.run_pure, Result.andThen_ok, ZE hi]
     rw [← esz, if_neg (by rw [c1]; simp)]
     exact hrun
    ·refine d7G hs ho (fun _ _ => rfl) (fun i2u hb' hne => ?_) ?_ rfl rfl rfl (fun i2u base' e => .inl ⟨base', e⟩) ?_ (fun s => ?_)
     ·exact setRow_other w _ _ _ (fun e => hne base (by rw [e]; exact em))
     ·rw [setRow_size]; exact Nat.le_refl _
     ·refine ⟨Nat.le_refl _, fun _ => ⟨rfl, rfl, by simp, rfl, fun i2u base' c' ty' e' h' => ?_⟩⟩
      rw [em] at e'; cases e'
      rw [hh] at h'; cases h'
      exact ⟨d9U, hh', hsize'⟩
     ·change i1j _ _ _ _ _ _ _
      refine ⟨by simpa using hb, fun e he => ?_, .inr ⟨blk, base, d9U, ty, em, hh', by rw [hsize']; simpa using hsz, fun i j hi' hj' => ?_⟩⟩
      ·rcases List.mem_or_eq_of_mem_set he with h | h
       ·exact hn e h
       ·rw [h, p3G]; exact p5d
      ·have hil : i < es.length := by simpa using hi'
       by_cases hik : i = k
       ·subst hik
        simp only [List.getElem_set_self, p3G] at hj' ⊢
        rw [p5d] at hj'
        rw [p3G] at s
        rw [hget]
        have hsg := i4r (cs := es[i]) (new := cellsOf (Yk P t) x) (c := c) (by rw [hlen, c2]; exact hcn) j
        by_cases hin : c ≤ j ∧ j < c + (Yk P t).size
        ·rw [if_pos (by omega)]
         obtain ⟨u, eu, hu, hu1⟩ := c3 (j - c) (by omega)
         refine ⟨u, by rw [← eu]; congr 1; omega, ?_, hu1⟩
         rw [if_pos (by omega), List.getElem?_eq_getElem (by rw [p5d]; exact hj'), List.getElem?_eq_getElem (by omega)] at hsg
         rw [Option.some.inj hsg]
         exact hu.step s
        ·rw [if_neg (by omega)]
         obtain ⟨u, eu, hu, hu1⟩ := hc j (by omega)
         refine ⟨u, eu, ?_, hu1⟩
         rw [if_neg (by omega), List.getElem?_eq_getElem (by rw [p5d]; exact hj'), List.getElem?_eq_getElem (by omega)] at hsg
         rw [Option.some.inj hsg]
         exact hu.step s
       ·have p5e : (es.set k (splice (es.getD k []) c (cellsOf (Yk P t) x)))[i] = es[i] := by simp [List.getElem_set, Ne.symm hik]
        simp only [p5e] at hj' ⊢
        rcases p3F with ⟨e, _⟩ | ⟨r0j, p7U, p9g, ty2, em2, hh2, _, hc2⟩
        ·rw [em] at e; cases e
        ·rw [em] at em2; cases em2
         rw [hh] at hh2; cases hh2
         obtain ⟨u, eu, hu, hu1⟩ := hc2 i j hil hj'
         have hji : j < n := by rw [← hn _ (List.getElem_mem hil)]; exact hj'
         have := p3a hji hik
         refine ⟨u, ?_, hu.step s, hu1⟩
         rw [hget, if_neg (by omega)]; exact eu
   | mps => exact hok.elim
   | mpi => exact hok.elim
   | sit => exact hok.elim
   | resv => exact hok.elim
 | _ => exact hok.elim
theorem d5W (w : World) (μ : Mu) (st : St) (v : Value) : VR w μ st v (d9S v) := by
 cases v with
 | bool b => exact .tr (.bool b)
 | int k n => exact .tr (.int k n)
 | string s => exact .tr (show TR w _ (.string (bs s.data.toList)) _ from .str _)
 | pointer a => cases a with
  | none => exact .tr .i4m
  | some a => exact .any _
 | slice a l c =>
  simp only [d9S]
  split
  ·rename_i h; obtain ⟨rfl, rfl, rfl⟩ := h; exact .tr .YP
  ·exact .any _
 | nilFunc => exact .tr .d8Z
 | map a => cases a with
  | none => exact .tr .i8f
  | some a => exact .any _
 | func f a c =>
  cases f with
  | func f =>
   simp only [d9S]
   split
   ·rename_i h
    exact .fn f a c [] [] h.1 h.2 (fun j h => absurd h (Nat.not_lt_zero _)) (fun j h => absurd h (Nat.not_lt_zero _))
   ·exact .any _
  | _ => exact .any _
 | _ => exact .any _
theorem i2G (w : World) (μ : Mu) (st : St) (v : Value) : VR w μ st v (p1O v) := by
 unfold p1O
 split
 ·rename_i cs
  refine .agg _ _ (by simp) (fun j hj => ?_)
  simp at hj
  simp only [List.getElem_map]
  have : cs.getD j undef = cs.toList[j]'(by simpa using hj) := by simp [hj]
  rw [this]
  exact d5W _ _ _ _
 ·exact d5W _ _ _ _
theorem i9S {P : Program} {t : TypeId} {w : World} {μ : Mu} {st : St} {vx : Value} {x : D} {q : Nat} (hs : Sim w μ st) (hx : VR w μ st vx x)
  (hok : (p5L (Yk P t) q x).ok) (hq : st[q]? = some (some .resv)) :
  ∃ v w' μ' ob, (Instr.box t vx).run P w = .ok v w' ∧ (p5L (Yk P t) q x).new = some ob ∧ Sim w' μ' (st.set q (some ob)) ∧ Step w μ st w' μ' (st.set q (some ob)) ∧
   VR w' μ' (st.set q (some ob)) v (p5L (Yk P t) q x).d := by
 obtain ⟨c1, c2, c3⟩ := i0i hx hok
 have hlt : q < st.length := (List.getElem?_eq_some_iff.1 hq).1
 have h := d7u (x := .cells vx.cells t) (ob := .arr 0 (Yk P t).size 0 [cellsOf (Yk P t) x]) hs hq (fun s => i2F (fun i j hi hj => by
  simp at hi; subst hi
  obtain ⟨u, eu, hu, hu1⟩ := c3 j (by simpa using hj)
  exact ⟨u, by simpa using eu, by simpa using hu, hu1⟩) (by simp [c1]) (by simp [c2]) (by simp [top]) s)
 refine ⟨.pointer (some ⟨w.heap.size, 0, none⟩), _, _, _, ?_, rfl, h.1, h.2, ?_⟩
 ·simp [Instr.box, newVar, newRow]
 ·refine .ptr _ q 0 0 0 ⟨_, rfl⟩ (by simpa using hlt) (by simp [hlt]) (fun g' n b es e => Nat.zero_le _) (fun n b es e => ?_)
  exact ⟨w.heap.size, 0, by rw [ZS], by simp⟩
theorem i1Y {P : Program} {t : TypeId} {inf : TypeInfo} {z : Value} (hz : inf.zero = some z) (hi : P.info? t = some inf) : (Yk P t).zero = z.cells.toList.map d9S := by
 simp [Yk, hi, hz]
theorem i6Y {P : Program} {t : TypeId} {w : World} {μ : Mu} {st : St} {q : Nat} (hs : Sim w μ st) (hok : (i4n (Yk P t) q).ok) (hq : st[q]? = some (some .resv)) :
  ∃ v w' μ' ob, (Instr.alloc t true (.tuple #[])).run P w = .ok v w' ∧ (i4n (Yk P t) q).new = some ob ∧ Sim w' μ' (st.set q (some ob)) ∧ Step w μ st w' μ' (st.set q (some ob)) ∧
   VR w' μ' (st.set q (some ob)) v (i4n (Yk P t) q).d := by
 obtain ⟨h1, h2, h3⟩ := hok
 obtain ⟨inf, hi, hsz⟩ := d1u h2
 have hlt : q < st.length := (List.getElem?_eq_some_iff.1 hq).1
 cases hz : inf.zero with
 | none => exfalso; apply h2; rw [← h1]; simp [Yk, hi, hz]
 | some z =>
  have ez := i1Y hz hi
  have hzl : z.cells.size = (Yk P t).size := by rw [← h1, ez]; simp
  have h := d7u (x := .cells z.cells t) (ob := .arr 0 (Yk P t).size 0 [(Yk P t).zero]) hs hq (fun s => i2F (fun i j hi hj => by
   simp at hi; subst hi
   simp [ez] at hj
   refine ⟨z.cells[j], by simp [hj], ?_⟩
   simp only [ez, List.getElem_cons_zero, List.getElem_map, Array.getElem_toList]
   refine ⟨d5W _ _ _ _, i0A (d5W w μ st _) ?_⟩
   rw [ez] at h3
   exact List.all_eq_true.1 h3 _ (List.mem_map_of_mem (by simp))) (by simp [hzl]) (by simp [h1]) (by simp [top]) s)
  refine ⟨.pointer (some ⟨w.heap.size, 0, none⟩), _, _, _, ?_, rfl, h.1, h.2, ?_⟩
  ·simp [Instr.alloc, newVar, newRow, zeroValue, typeInfo, hi, hz]
  ·refine .ptr _ q 0 0 0 ⟨_, rfl⟩ (by simpa using hlt) (by simp [hlt]) (fun g' n b es e => Nat.zero_le _) (fun n b es e => ?_)
   exact ⟨w.heap.size, 0, by rw [ZS], by simp⟩
def InK (k : IntKind) (n : Int) : Prop := k.min ≤ n ∧ n ≤ k.max
def d0x : Option D → Nat → Nat
 | some (.int _ m), _ => m.toNat
 | _, n => n
def i5R : Option D → Prop
 | none => True
 | some (.int _ m) => 0 ≤ m
 | _ => False
def d8M (i : TI) (e : Nat) (lk : Look) (x : D) (lo hi mx : Option D) : LR :=
 match x with
 | .str s => { d := .str ((s.drop (d0x lo 0)).take (d0x hi s.length - d0x lo 0)), ok := i.k = .str ∧ i5R lo ∧ i5R hi ∧ mx = none ∧ d0x lo 0 ≤ d0x hi s.length ∧ d0x hi s.length ≤ s.length }
 | .sl full n b es => { d := .sl (match mx with | none => full && d0x hi es.length == es.length | some _ => d0x mx 0 == d0x hi es.length) n b ((es.drop (d0x lo 0)).take (d0x hi es.length - d0x lo 0)), ok := (∃ t, i.k = .slice t) ∧ n = e ∧ e ≠ 0 ∧ i5R lo ∧ i5R hi ∧ i5R mx ∧ (mx.isSome = true → hi.isSome = true) ∧ d0x lo 0 ≤ d0x hi es.length ∧ d0x hi es.length ≤ d0x mx es.length ∧ d0x mx es.length ≤ es.length }
 | .ref full o g off len => match lk o with
  | some (.arr g' n _ es) => { d := .ref (match mx with | none => full && d0x hi len == len | some _ => d0x mx 0 == d0x hi len) o g (off + d0x lo 0) (d0x hi len - d0x lo 0), ok := (∃ t, i.k = .slice t) ∧ g' = g ∧ n = e ∧ e ≠ 0 ∧ i5R lo ∧ i5R hi ∧ i5R mx ∧ (mx.isSome = true → hi.isSome = true) ∧ d0x lo 0 ≤ d0x hi len ∧ d0x hi len ≤ d0x mx len ∧ d0x mx len ≤ len, rd := [o] }
  | _ => .bad
 | .YP => { d := .YP, ok := (∃ t, i.k = .slice t) ∧ e ≠ 0 ∧ i5R lo ∧ i5R hi ∧ i5R mx ∧ (mx.isSome = true → hi.isSome = true) ∧ d0x lo 0 = 0 ∧ d0x hi 0 = 0 ∧ d0x mx 0 = 0 }
 | _ => .bad
def d7T (ag : Bool) (x : D) : List D := if ag then (match x with | .agg cs => cs | _ => []) else [x]
def i5S (ag : Bool) (sz : Nat) (x : D) : Prop := if ag then (match x with | .agg cs => cs.length = sz | _ => False) else (x.one = true ∧ sz = 1)
def d6K (fs : List (Nat × Nat × Bool)) (cs : List D) : List (Nat × D) → List D
 | [] => cs
 | (f, x) :: r => match fs[f]? with
  | some (off, _, ag) => d6K fs (splice cs off (d7T ag x)) r
  | none => cs
def d5j (fs : List (Nat × Nat × Bool)) (size : Nat) : List (Nat × D) → Prop
 | [] => True
 | (f, x) :: r => match fs[f]? with
  | some (off, sz, ag) => i5S ag sz x ∧ off + sz ≤ size ∧ d5j fs size r
  | none => False
def i0B (i : TI) (e : TI) (parts : List (Nat × D)) : LR :=
 match i.k with
 | .struct fs => { d := .agg (d6K fs i.zero parts), ok := i.zero.length = i.size ∧ i.size ≠ 0 ∧ fs.all (fun f => f.2.1 != 0) = true ∧ d5j fs i.size parts }
 | .arr _ _ => { d := .agg (i5Q i.zero (parts.map fun p => (p.1 * e.size, d7T e.k.agg p.2))), ok := i.zero.length = i.size ∧ i.size ≠ 0 ∧ (∀ p ∈ parts, i5S e.k.agg e.size p.2 ∧ p.1 * e.size + e.size ≤ i.size) ∧ e.k ≠ .none }
 | _ => .bad
def d7H (es : List (List D)) : List (Nat × List D) → List (List D)
 | [] => es
 | (i, cs) :: r => d7H (es.set i cs) r
def d6L (i : TI) (e : TI) (len : Nat) (parts : List (Nat × D)) (q : Nat) : LR :=
 { d := .ref true q 0 0 len, ok := (∃ t, i.k = .slice t) ∧ e.zero.length = e.size ∧ e.size ≠ 0 ∧ e.zero.all D.one = true ∧ (∀ p ∈ parts, d6k e p.2 ∧ p.1 < len) ∧ len * e.size ≤ 2 ^ 24 ∧ len * e.bytes ≤ top, new := some (.arr 0 e.size e.bytes (d7H (List.replicate len e.zero) (parts.map fun p => (p.1, cellsOf e p.2)))) }
def d2k (i : TI) (e : TI) (l c : D) (q : Nat) : LR :=
 match l, c with
 | .int .i64 l, .int .i64 c => { d := .ref (decide (c = l)) q 0 0 l.toNat, ok := (∃ t, i.k = .slice t) ∧ 0 ≤ l ∧ l ≤ c ∧ c.toNat * e.bytes ≤ top ∧ c.toNat ≤ top ∧ e.zero.length = e.size ∧ e.size ≠ 0 ∧ e.zero.all D.one = true, new := some (.arr 0 e.size e.bytes (List.replicate l.toNat e.zero)) }
 | _, _ => .bad
def d4O (i : TI) (k : TI) (ag : Bool) (q : Nat) : LR :=
 match i.k, k.k with
 | .map _ _, .str => { d := .mp q, ok := True, new := some (.mps ag []) }
 | .map _ _, .int kk => { d := .mp q, ok := True, new := some (.mpi ag kk []) }
 | _, _ => .bad
def assoc {K V : Type} [DecidableEq K] (k : K) : List (K × V) → Option V
 | [] => none
 | (a, v) :: r => if k = a then some v else assoc k r
def ZT {K V : Type} [DecidableEq K] (k : K) (v : V) : List (K × V) → List (K × V)
 | [] => [(k, v)]
 | (a, u) :: r => if k = a then (k, v) :: r else (a, u) :: ZT k v r
def i1k (vi : TI) (r : Option (List D)) : D := match r with
 | some cs => mkv vi.k.agg cs
 | none => vi.zv.getD .any
def i1l (vi : TI) (i4W : Bool) (r : Option (List D)) : D :=
 if i4W then .tup [i1k vi r, .bool r.isSome] else i1k vi r
def d6M (i ki vi : TI) (lk : Look) (i4W : Bool) (key : D) : D → LR
 | .mp o => match lk o, key with
  | some (.mps ag es), .str k => { d := i1l vi i4W (assoc k es), ok := (∃ a b, i.k = .map a b) ∧ ki.k = .str ∧ ag = vi.k.agg ∧ vi.zv.isSome = true, rd := [o] }
  | some (.mpi ag kk es), .int kk' k => { d := i1l vi i4W (assoc k es), ok := (∃ a b, i.k = .map a b) ∧ ki.k = .int kk ∧ kk' = kk ∧ ag = vi.k.agg ∧ vi.zv.isSome = true, rd := [o] }
  | _, _ => .bad
 | _ => .bad
def d2M (i ki vi : TI) (lk : Look) (key x : D) : D → LR
 | .mp o => match lk o, key with
  | some (.mps ag es), .str k => { d := .any, ok := (∃ a b, i.k = .map a b) ∧ ki.k = .str ∧ ag = vi.k.agg ∧ d6k vi x, rd := [o], up := some (o, .mps ag (ZT k (cellsOf vi x) es)) }
  | some (.mpi ag kk es), .int kk' k => { d := .any, ok := (∃ a b, i.k = .map a b) ∧ ki.k = .int kk ∧ kk' = kk ∧ ag = vi.k.agg ∧ d6k vi x, rd := [o], up := some (o, .mpi ag kk (ZT k (cellsOf vi x) es)) }
  | _, _ => .bad
 | _ => .bad
def arith (k : IntKind) (n : Int) : LR := { d := .int k (k.wrap n), ok := True }
def d1t (op : BinOp) (k : IntKind) (x y : Int) : Int :=
 let a := BitVec.ofInt k.bits x
 let b := BitVec.ofInt k.bits y
 match op with
 | .and => k.wrap (a &&& b).toNat
 | .or => k.wrap (a ||| b).toNat
 | .xor => k.wrap (a ^^^ b).toNat
 | _ => k.wrap (a &&& ~~~b).toNat
def i0j (b : Bool) : LR := { d := .bool b, ok := True }
def d3l (P : Program) (t : TypeId) : Nat :=
 match P.underlying t with
 | some (.int _) => 1
 | some .string => 2
 | some .bool => 3
 | _ => 0
def YT (P : Program) (t : TypeId) : Option (List Nat) :=
 match P.underlying t with
 | some (.struct fields) => if !P.stoodInHeld t && !P.eqGuardType P.depth t && fields.toList.zipIdx.all (fun (f, j) => f.offset == j && f.name != "_") then some (fields.toList.map fun f => d3l P f.type) else none
 | _ => none
def i4s : Nat → D → D → Option Bool
 | 1, .int k a, .int k' b => if k = k' then some (decide (a = b)) else none
 | 2, .str a, .str b => some (decide (a = b))
 | 3, .bool a, .bool b => some (decide (a = b))
 | _, _, _ => none
def d7I : List Nat → List D → List D → Option Bool
 | [], [], [] => some true
 | k :: ks, a :: x, b :: y => match i4s k a b, d7I ks x y with
  | some p, some q => some (p && q)
  | _, _ => none
 | _, _, _ => none
def i4t (a b : Bs) : Bs := a ++ b
def d6N (a b : Bs) : Prop := a.length + b.length ≤ 9223372036854775807
instance {a b : Bs} : Decidable (d6N a b) := by unfold d6N; exact inferInstance
def i1m (op : BinOp) (x y : D) : LR :=
 match x, y with
 | .int k a, .int k' b =>
  match op with
  | .shl => { d := .int k (k.wrap (a * 2 ^ (min b.toNat k.bits))), ok := 0 ≤ b }
  | .shr => { d := .int k (a.fdiv (2 ^ (min b.toNat k.bits))), ok := 0 ≤ b }
  | _ => if k = k' then
   match op with
   | .add => arith k (a + b)
   | .sub => arith k (a - b)
   | .mul => arith k (a * b)
   | .quo => { d := .int k (a.tdiv b), ok := b ≠ 0 ∧ InK k (a.tdiv b) }
   | .rem => { d := .int k (a.tmod b), ok := b ≠ 0 }
   | .eql => i0j (decide (a = b))
   | .neq => i0j (!decide (a = b))
   | .lss => i0j (decide (a < b))
   | .leq => i0j (decide (a ≤ b))
   | .gtr => i0j (decide (b < a))
   | .geq => i0j (decide (b ≤ a))
   | op => { d := .int k (d1t op k a b), ok := True }
   else .bad
 | .str a, .str b => match op with
  | .add => { d := .str (i4t a b), ok := d6N a b }
  | .eql => i0j (decide (a = b))
  | .neq => i0j (!decide (a = b))
  | .lss => i0j (Op.bytesLess a b)
  | .gtr => i0j (!(Op.bytesLess a b || decide (a = b)))
  | .leq => i0j (Op.bytesLess a b || decide (a = b))
  | .geq => i0j (!Op.bytesLess a b)
  | _ => .bad
 | _, _ => .bad
def aEq (i : TI) (flat : Option (List Nat)) (neg : Bool) (x y : D) : LR :=
 match x, y with
 | .bool a, .bool b => { d := .bool (if neg then !decide (a = b) else decide (a = b)), ok := i.k = .bool }
 | .agg a, .agg b => match flat with
  | some ks => match d7I ks a b with
   | some r => { d := .bool (if neg then !r else r), ok := True }
   | none => .bad
  | none => .bad
 | .YP, .YP => { d := .bool (!neg), ok := ∃ t, i.k = .slice t }
 | _, _ => .bad
def aUn (op : UnOp) (x : D) : LR :=
 match op, x with
 | .not, .bool b => i0j (!b)
 | .neg, .int k n => arith k (0 - n)
 | _, _ => .bad
def ZO (n : Int) : Bs := (Utf8.encode n).data.toList
def d5k (a : Bs) : List (List D) := a.map fun c => [.int .u8 (c.toNat : Int)]
def d5l (s t e : TI) (x : D) : LR :=
 match x, s.k, t.k with
 | .str a, .str, .slice _ => { d := .sl false 1 1 (d5k a), ok := e.k = .int .u8 ∧ a.length ≤ top }
 | .int _ n, .int _, .int k => { d := .int k (k.wrap n), ok := True }
 | .str a, .str, .str => { d := .str a, ok := True }
 | .int _ n, .int _, .str => { d := .str (ZO n), ok := True }
 | _, _, _ => .bad
def d4j (x : D) : LR :=
 match x with
 | .ptr _ _ _ _ => { d := x, ok := True }
 | .i0x _ => { d := x, ok := True }
 | _ => .bad
def d6v (ix : Nat) : D → LR
 | .tup cs => match cs[ix]? with
  | some (.cond g d) => { d := d, ok := g = true }
  | some d => { d := d, ok := True }
  | none => .bad
 | _ => .bad
def d8N (lk : Look) (e : TI) : D → Option (List (List D))
 | .sl _ n _ es => if n = e.size then some es else none
 | .YP => some []
 | .ref _ o g off len => match lk o with
  | some (.arr g' n _ es) => if g' = g ∧ n = e.size ∧ off + len ≤ es.length then some ((es.drop off).take len) else none
  | _ => none
 | .str s => some (s.map fun c => [.int .u8 (c.toNat : Int)])
 | _ => none
def p1P : D → List Nat
 | .ref _ o _ _ _ => [o]
 | _ => []
def xOk (e : TI) (xk : TK) : D → Prop
 | .str _ => xk = .str ∧ e.size = 1
 | _ => ∃ t, xk = .slice t
def i8Y (i e : TI) (xk : TK) (x : D) (n : Nat) : Prop :=
 (∃ t, i.k = .slice t) ∧ e.zero.length = e.size ∧ e.size ≠ 0 ∧ e.zero.all D.one = true ∧ n * e.bytes ≤ top ∧ n ≤ top ∧ xOk e xk x
def d1I (i : TI) (e : TI) (xk : TK) (lk : Look) (src x : D) (q : Nat) : LR :=
 match d8N lk e x with
 | none => .bad
 | some news =>
  match src with
  | .YP => { d := .ref false q 0 0 news.length, ok := i8Y i e xk x news.length, rd := p1P x, new := some (.arr 0 e.size e.bytes news) }
  | .sl true n _ es => { d := .ref false q 0 0 (es.length + news.length), ok := i8Y i e xk x (es.length + news.length) ∧ n = e.size ∧ (es = [] ∨ news ≠ []), rd := p1P x, new := some (.arr 0 e.size e.bytes (es ++ news)) }
  | .ref true o g off len => match lk o with
   | some (.arr g' n _ es) => { d := .ref false q 0 0 (len + news.length), ok := i8Y i e xk x (len + news.length) ∧ g' = g ∧ n = e.size ∧ off + len ≤ es.length ∧ (len = 0 ∨ news ≠ []), rd := o :: p1P x, new := some (.arr 0 e.size e.bytes ((es.drop off).take len ++ news)) }
   | _ => .bad
  | .ref false o g off len => match lk o with
   | some (.arr g' n b es) => { d := .ref false o (g + 1) 0 (len + news.length), ok := i8Y i e xk x (len + news.length) ∧ g' = g ∧ n = e.size ∧ b = e.bytes ∧ off + len ≤ es.length, rd := o :: p1P x, up := some (o, .arr (g + 1) n b ((es.drop off).take len ++ news)) }
   | _ => .bad
  | _ => .bad
def i9T (i : TI) (lk : Look) : D → LR
 | .str s => { d := .int .i64 s.length, ok := i.k = .str }
 | .YP => { d := .int .i64 0, ok := ∃ t, i.k = .slice t }
 | .sl _ _ _ es => { d := .int .i64 es.length, ok := ∃ t, i.k = .slice t }
 | .ref _ o g _ len => match lk o with
  | some (.arr g' _ _ _) => { d := .int .i64 len, ok := (∃ t, i.k = .slice t) ∧ g' = g, rd := [o] }
  | _ => .bad
 | .i8f => { d := .int .i64 0, ok := ∃ a b, i.k = .map a b }
 | .mp o => match lk o with
  | some (.mps _ es) => { d := .int .i64 es.length, ok := ∃ a b, i.k = .map a b, rd := [o] }
  | some (.mpi _ _ es) => { d := .int .i64 es.length, ok := ∃ a b, i.k = .map a b, rd := [o] }
  | _ => .bad
 | _ => .bad
def p1Q (x y : D) : LR :=
 match x, y with
 | .int k a, .int _ b => { d := .int k (max a b), ok := True }
 | _, _ => .bad
def p1R (x y : D) : LR :=
 match x, y with
 | .int k a, .int _ b => { d := .int k (min a b), ok := True }
 | _, _ => .bad
theorem i6Z {P : Program} {t : TypeId} {k : TK} (h : (Yk P t).k = k) (hk : k ≠ .none) : ∃ inf u, P.info? t = some inf ∧ P.underlying t = some u ∧ kindOf P (some u) = k ∧
  (Yk P t).size = inf.size ∧ (Yk P t).bytes = inf.bytes ∧ (Yk P t).zero = (inf.zero.map fun v => v.cells.toList.map d9S).getD [] := by
 obtain ⟨inf, u, h1, h2, h3, h4, h5, h6⟩ := d9y (P := P) (t := t) (by rw [h]; exact hk)
 exact ⟨inf, u, h1, h2, h5 ▸ h, h3, h4, h6⟩
theorem i4X {P : Program} {t : TypeId} {fs : List (Nat × Nat × Bool)} (h : (Yk P t).k = .struct fs) : ∃ fields, P.underlying t = some (.struct fields) ∧
  fs = fields.toList.map fun f => (f.offset, fsz P f.type, d6j (P.underlying f.type)) := by
 obtain ⟨inf, u, _, hu, hk, _⟩ := i6Z h (by simp)
 cases u <;> simp only [kindOf] at hk <;> first | (cases hk; done) | skip
 rename_i fields
 exact ⟨fields, hu, (TK.struct.inj hk).symm⟩
theorem d5m {P : Program} {t : TypeId} {e : Nat} (h : (Yk P t).k = .slice e) : P.underlying t = some (.slice e) := by
 obtain ⟨inf, u, _, hu, hk, _⟩ := i6Z h (by simp)
 cases u <;> simp only [kindOf] at hk <;> first | (cases hk; exact hu) | (cases hk; done)
theorem p5M {P : Program} {t : TypeId} {n e : Nat} (h : (Yk P t).k = .arr n e) : P.underlying t = some (.array n e) := by
 obtain ⟨inf, u, _, hu, hk, _⟩ := i6Z h (by simp)
 cases u <;> simp only [kindOf] at hk <;> first | (cases hk; exact hu) | (cases hk; done)
theorem i2H {P : Program} {t : TypeId} (h : (Yk P t).k = .str) : P.underlying t = some .string := by
 obtain ⟨inf, u, _, hu, hk, _⟩ := i6Z h (by simp)
 cases u <;> simp only [kindOf] at hk <;> first | exact hu | (cases hk; done)
theorem i8Z {P : Program} {t : TypeId} {k : IntKind} (h : (Yk P t).k = .int k) : P.underlying t = some (.int k) := by
 obtain ⟨inf, u, _, hu, hk, _⟩ := i6Z h (by simp)
 cases u <;> simp only [kindOf] at hk <;> first | (cases hk; exact hu) | (cases hk; done)
theorem i9U {P : Program} {t : TypeId} {k e : Nat} (h : (Yk P t).k = .map k e) : P.underlying t = some (.map k e) := by
 obtain ⟨inf, u, _, hu, hk, _⟩ := i6Z h (by simp)
 cases u <;> simp only [kindOf] at hk <;> first | (cases hk; exact hu) | (cases hk; done)
theorem p5N {P : Program} {t : TypeId} (h : (Yk P t).k = .bool) : P.underlying t = some .bool := by
 obtain ⟨inf, u, _, hu, hk, _⟩ := i6Z h (by simp)
 cases u <;> simp only [kindOf] at hk <;> first | exact hu | (cases hk; done)
theorem i9V {P : Program} {fields : Array Field} {f off sz : Nat} {ag : Bool}
  (h : (fields.toList.map fun f => (f.offset, fsz P f.type, d6j (P.underlying f.type)))[f]? = some (off, sz, ag)) :
  ∃ fld, fields[f]? = some fld ∧ fld.offset = off ∧ fsz P fld.type = sz ∧ d6j (P.underlying fld.type) = ag := by
 rw [List.getElem?_map] at h
 cases hf : fields[f]? with
 | none => rw [show fields.toList[f]? = none by simpa using hf] at h; cases h
 | some fld =>
  rw [show fields.toList[f]? = some fld by simpa using hf] at h
  simp at h
  exact ⟨fld, rfl, h.1, h.2.1, h.2.2⟩
theorem i2I {P : Program} {t : TypeId} {sz : Nat} (h : fsz P t = sz) (h0 : sz ≠ 0) : ∃ inf u, P.info? t = some inf ∧ P.underlying t = some u ∧ inf.size = sz := by
 unfold fsz at h
 cases hi : P.info? t with
 | none => rw [hi] at h; exact absurd h.symm h0
 | some inf =>
  cases hu : P.underlying t with
  | none => rw [hi, hu] at h; exact absurd h.symm h0
  | some u => rw [hi, hu] at h; exact ⟨inf, u, rfl, rfl, h⟩
theorem d5n {w : World} {μ : Mu} {st : St} {v : Value} {k : IntKind} {n : Int} (h : VR w μ st v (.int k n)) : v = .int k n := by
 cases h with | tr h => cases h; rfl
theorem d6t {w : World} {μ : Mu} {st : St} {v : Value} {s : Bs} (h : VR w μ st v (.str s)) : v = .string (bs s) := by
 cases h with | tr h => cases h; rfl
theorem d6O {w : World} {μ : Mu} {st : St} {v : Value} {b : Bool} (h : VR w μ st v (.bool b)) : v = .bool b := by
 cases h with | tr h => cases h; rfl
theorem i1n {w : World} {μ : Mu} {st : St} {v : Value} (h : VR w μ st v .YP) : v = .slice none 0 0 := by
 cases h with | tr h => cases h; rfl
theorem i5T {w : World} {μ : Mu} {st : St} {v : Value} {cs : List D} (h : VR w μ st v (.agg cs)) : ∃ vs, v = .agg vs ∧ vs.size = cs.length ∧ ∀ j (h : j < cs.length), VR w μ st (vs.getD j undef) (cs[j]) := by
 cases h with
 | tr h => cases h
 | agg vs _ hs hc => exact ⟨vs, rfl, hs, hc⟩
theorem d3F (w : World) (μ : Mu) (st : St) (k : IntKind) (n : Int) : VR w μ st (.int k n) (.int k n) := .tr (.int k n)
theorem d3m (w : World) (μ : Mu) (st : St) (b : Bool) : VR w μ st (.bool b) (.bool b) := .tr (.bool b)
theorem i8h (w : World) (μ : Mu) (st : St) (s : Bs) : VR w μ st (.string (bs s)) (.str s) := .tr (.str s)
theorem i2J {P : Program} {t : TypeId} {w : World} {μ : Mu} {st : St} {va : Value} {a : D} {f : Nat} (hv : VR w μ st va a)
  (hok : (d3K (Yk P t) f a).ok) : ∃ v, (Instr.fieldAt t va f).run P w = .ok v w ∧ VR w μ st v (d3K (Yk P t) f a).d := by
 have go : ∀ fs off sz ag ad, (Yk P t).k = .struct fs → fs[f]? = some (off, sz, ag) → sz ≠ 0 →
   (Instr.fieldAt t (.pointer (some ad)) f).run P w = .ok (.pointer (some (ad.add off))) w := by
  intro fs off sz ag ad hk hf h0
  obtain ⟨fields, hu, rfl⟩ := i4X hk
  obtain ⟨fld, e1, e2, e3, e4⟩ := i9V hf
  obtain ⟨inf, u, hi, _, hsz⟩ := i2I e3 h0
  have hn : inf.size ≠ 0 := by rw [hsz]; exact h0
  simp [Instr.fieldAt, run_underlying hu, e1, Instr.sureAddr, fieldPlace, ZE hi, hn, e2]
 cases a with
 | ptr o g k c =>
  simp only [d3K] at *
  split at hok
  ·rename_i fs hk
   split at hok
   ·rename_i off sz ag hf
    cases hv with
    | tr h => cases h
    | ptr _ _ _ _ _ hvv ho hr hg h =>
     obtain ⟨ad, rfl⟩ := hvv
     refine ⟨_, go fs off sz ag ad hk hf hok, .ptr _ o g k (c + off) ⟨_, rfl⟩ ho hr hg (fun n b es e => ?_)⟩
     obtain ⟨blk, base, em, ev⟩ := h n b es e
     refine ⟨blk, base, em, ?_⟩
     cases ev
     rw [d7S]; congr 3; omega
   ·exact hok.elim
  ·exact hok.elim
 | i0x cs =>
  simp only [d3K] at *
  split at hok
  ·rename_i fs hk
   split at hok
   ·rename_i off sz ag hf
    obtain ⟨h0, hlt⟩ := hok
    cases hv with
    | tr h =>
     cases h with
     | i0x _ blk r0k cv i1X hown ha hc =>
      refine ⟨_, go fs off sz ag _ hk hf h0, ?_⟩
      rw [d7S]
      refine .tr (.i0x _ blk (r0k + off) (fun j => cv (off + j)) i1X hown (fun j hj => ?_) (fun j hj => ?_))
      ·simp at hj
       rw [Nat.add_assoc]; exact ha (off + j) (by omega)
      ·simp at hj
       simp only [List.getElem_drop]; exact hc (off + j) (by omega)
   ·exact hok.elim
  ·exact hok.elim
 | _ => exact hok.elim
theorem i4u {P : Program} {t : TypeId} {w : World} {μ : Mu} {st : St} {vs : Array Value} {cs : List D} {off sz : Nat} {ag : Bool} (hsz : vs.size = cs.length)
  (hc : ∀ j (h : j < cs.length), VR w μ st (vs.getD j undef) (cs[j])) (hle : off + sz ≤ cs.length) (h1 : ag = false → sz = 1)
  {u : TypeDesc} (hu : P.underlying t = some u) (hag : d6j (some u) = ag) (hs : ag = true → ∃ inf, P.info? t = some inf ∧ inf.size = sz) :
  ∃ v, (part t vs off).run P w = .ok v w ∧ VR w μ st v (mkv ag ((cs.drop off).take sz)) := by
 have hr := d9z hu w
 cases ag with
 | false =>
  have := h1 rfl; subst this
  have hlt : off < vs.size := by omega
  refine ⟨vs[off], by simp [part, hr, hag, hlt], ?_⟩
  have := hc off (by omega)
  simp only [Array.getD_eq_getD_getElem?, Array.getElem?_eq_getElem hlt, Option.getD_some] at this
  have e : (cs.drop off).take 1 = [cs[off]'(by omega)] := by
   rw [List.drop_eq_getElem_cons (by omega)]; rfl
  rw [e]; exact this
 | true =>
  obtain ⟨inf, hi, hsz'⟩ := hs rfl
  refine ⟨.agg (vs.extract off (off + sz)), by simp [part, hr, hag, ZE hi, hsz'], ?_⟩
  simp only [mkv, if_true]
  refine .agg _ _ (by simp; omega) (fun j hj => ?_)
  simp at hj
  have := hc (off + j) (by omega)
  have hlt : off + j < vs.size := by omega
  simp only [Array.getD_eq_getD_getElem?, Array.getElem?_eq_getElem hlt, Option.getD_some] at this
  simp only [List.getElem_take, List.getElem_drop, Array.getD_eq_getD_getElem?]
  rw [Array.getElem?_eq_getElem (by simp; omega)]
  simpa using this
theorem i7a {P : Program} {t : TypeId} {w : World} {μ : Mu} {st : St} {va : Value} {a : D} {f : Nat} (hv : VR w μ st va a)
  (hok : (i0y (Yk P t) f a).ok) : ∃ v, (Instr.field t va f).run P w = .ok v w ∧ VR w μ st v (i0y (Yk P t) f a).d := by
 cases a with
 | agg cs =>
  simp only [i0y] at *
  split at hok
  ·rename_i fs hk
   split at hok
   ·rename_i off sz ag hf
    obtain ⟨hle, h0, h1⟩ := hok
    obtain ⟨fields, hu, rfl⟩ := i4X hk
    obtain ⟨fld, e1, e2, e3, e4⟩ := i9V hf
    obtain ⟨inf, u, hi, hu2, p7V⟩ := i2I e3 h0
    obtain ⟨vs, rfl, hsz, hc⟩ := i5T hv
    rw [hu2] at e4
    obtain ⟨v, h2, h3⟩ := i4u (P := P) (t := fld.type) (off := off) (sz := sz) (ag := ag) hsz hc hle h1 hu2 e4 (fun _ => ⟨inf, hi, p7V⟩)
    exact ⟨v, by simpa [Instr.field, run_underlying hu, e1, asAgg, e2] using h2, h3⟩
   ·exact hok.elim
  ·exact hok.elim
 | _ => exact hok.elim
theorem d3w (P : Program) (w : World) (k : IntKind) (n : Int) : (asIntOf (.int k n)).run P w = .ok (k, n) w := rfl
theorem toNat_lt {m : Int} {n : Nat} (h0 : 0 ≤ m) (h : m < n) : m.toNat < n := by omega
theorem i2K {P : Program} {t el : TypeId} {w : World} {μ : Mu} {st : St} {vx vi : Value} {x ix : D} (hs : Sim w μ st) (hx : VR w μ st vx x) (hi : VR w μ st vi ix)
  (hel : (Yk P t).k = .slice el ∨ ∃ n, (Yk P t).k = .arr n el)
  (hok : (d1r (Yk P t) (Yk P el) (look st) x ix).ok) :
  ∃ v, (Instr.indexAt t vx vi).run P w = .ok v w ∧ VR w μ st v (d1r (Yk P t) (Yk P el) (look st) x ix).d := by
 cases ix with
 | int k m =>
  have := d5n hi; subst this
  rcases hel with hel | ⟨N, hel⟩
  ·have hu := d5m hel
   cases x with
   | sl full n b es =>
    simp only [d1r, hel] at *
    obtain ⟨h0, hlt, rfl, he⟩ := hok
    obtain ⟨inf, i7b, hsz⟩ := d1u he
    cases hx with
    | tr h =>
     cases h with
     | sl _ _ _ _ a len cap cv hlen hcap i3R hb hb1 hn ha hc =>
      rcases ha with ha | ⟨blk, off, ea, i1X, hown, hcell⟩
      ·subst ha; simp at hlt; omega
      ·subst ea
       have hlt' : m < (len : Int) := by rw [hlen]; exact hlt
       have hmn := toNat_lt h0 hlt
       refine ⟨.pointer (some ((⟨blk, off, none⟩ : Addr).add (m.toNat * inf.size))), ?_, ?_⟩
       ·simp [Instr.indexAt, d3w, run_underlying hu, h0, hlt', ZE i7b]
       ·rw [d7S, ← hsz, show es.getD m.toNat (Yk P el).dfl = es[m.toNat] by simp [hmn]]
        refine .tr (.i0x _ blk _ (cv m.toNat) i1X hown (fun j hj => ?_) (fun j hj => hc m.toNat j hmn hj))
        rw [Nat.add_assoc]
        exact hcell m.toNat j hmn (by rw [← hn _ (List.getElem_mem hmn)]; exact hj)
   | ref full o g off len =>
    simp only [d1r, hel] at *
    cases hl : look st o with
    | none => rw [hl] at hok; exact hok.elim
    | some ob =>
     rw [hl] at hok
     cases ob with
     | arr g' n b es =>
      obtain ⟨h0, hlt, rfl, rfl, hle, he⟩ := hok
      obtain ⟨inf, i7b, hsz⟩ := d1u he
      have ho := d0A hl
      cases hx with
      | tr h => cases h
      | ref _ _ _ _ _ _ hvv hol hr hg h =>
       obtain ⟨a, cap, ev, h1, h2, h3, h4⟩ := h _ _ _ ho
       subst ev
       rcases h4 with h4 | ⟨blk, base, em, ea, c, ty, hh, r0l⟩
       ·omega
       ·subst ea
        have hlt' : m < (len : Int) := hlt
        refine ⟨.pointer (some ((⟨blk, base + off * (Yk P el).size, none⟩ : Addr).add (m.toNat * inf.size))), ?_, ?_⟩
        ·simp [Instr.indexAt, d3w, run_underlying hu, h0, hlt', ZE i7b]
        ·rw [d7S, ← hsz]
         refine .ptr _ o g' (off + m.toNat) 0 ⟨_, rfl⟩ hol hr hg (fun n b es' e => ?_)
         rw [ho] at e; cases e
         refine ⟨blk, base, em, ?_⟩
         rw [Nat.add_mul]; congr 3; omega
     | mps => exact hok.elim
     | mpi => exact hok.elim
     | sit => exact hok.elim
     | resv => exact hok.elim
   | _ => simp only [d1r, hel] at hok; exact hok.elim
  ·have hu := p5M hel
   cases x with
   | ptr o g kk c =>
    simp only [d1r, hel] at *
    obtain ⟨h0, hlt, h2, he⟩ := hok
    obtain ⟨inf, i7b, hsz⟩ := d1u he
    cases hx with
    | tr h => cases h
    | ptr _ _ _ _ _ hvv ho hr hg h =>
     obtain ⟨ad, rfl⟩ := hvv
     refine ⟨.pointer (some (ad.add (m.toNat * inf.size))), ?_, ?_⟩
     ·simp [Instr.indexAt, d3w, run_underlying hu, h0, hlt, ZE i7b, Instr.sureAddr]
     ·refine .ptr _ o g kk _ ⟨_, rfl⟩ ho hr hg (fun n b es e => ?_)
      obtain ⟨blk, base, em, ev⟩ := h n b es e
      cases ev
      refine ⟨blk, base, em, ?_⟩
      rw [d7S, hsz]; congr 3; omega
   | i0x cs =>
    simp only [d1r, hel] at *
    obtain ⟨h0, hlt, h2, he⟩ := hok
    obtain ⟨inf, i7b, hsz⟩ := d1u he
    cases hx with
    | tr h =>
     cases h with
     | i0x _ blk off cv i1X hown ha hc =>
      refine ⟨.pointer (some ((⟨blk, off, none⟩ : Addr).add (m.toNat * inf.size))), ?_, ?_⟩
      ·simp [Instr.indexAt, d3w, run_underlying hu, h0, hlt, ZE i7b, Instr.sureAddr]
      ·rw [d7S, ← hsz]
       refine .tr (.i0x _ blk _ (fun j => cv (m.toNat * (Yk P el).size + j)) i1X hown (fun j hj => ?_) (fun j hj => ?_))
       ·simp [rowAt] at hj
        rw [Nat.add_assoc]; exact ha _ (by omega)
       ·simp [rowAt] at hj
        simp only [rowAt, List.getElem_take, List.getElem_drop]; exact hc _ (by omega)
   | _ => simp only [d1r, hel] at hok; exact hok.elim
 | _ => exact hok.elim
theorem i7c {P : Program} {t el : TypeId} {w : World} {μ : Mu} {st : St} {vx vi : Value} {x ix : D} (hx : VR w μ st vx x) (hi : VR w μ st vi ix)
  (hel : (Yk P t).k = .str ∨ ∃ n, (Yk P t).k = .arr n el)
  (hok : (d7v (Yk P t) (Yk P el) x ix).ok) :
  ∃ v, (Instr.index t vx vi).run P w = .ok v w ∧ VR w μ st v (d7v (Yk P t) (Yk P el) x ix).d := by
 cases ix with
 | int k m =>
  have := d5n hi; subst this
  rcases hel with hel | ⟨N, hel⟩
  ·have hu := i2H hel
   cases x with
   | str s =>
    simp only [d7v, hel] at *
    obtain ⟨h0, hlt⟩ := hok
    have := d6t hx; subst this
    have hmn := toNat_lt h0 hlt
    refine ⟨.int .u8 ((s[m.toNat]).toNat : Int), ?_, ?_⟩
    ·have e : (bs s)[m.toNat]? = some (s[m.toNat]) := by
      rw [ByteArray.getElem?_lt' _ _ (by simpa [bs, ByteArray.size] using hmn)]
      simp [bs, ByteArray.getElem_eq_getElem_data]
     simp [Instr.index, d3w, run_underlying hu, h0, e]
    ·have : s.getD m.toNat 0 = s[m.toNat] := by simp [List.getD, hmn]
     unfold Yu; rw [this]; exact d3F _ _ _ _ _
   | _ => simp only [d7v, hel] at hok; exact hok.elim
  ·have hu := p5M hel
   cases x with
   | agg cs =>
    simp only [d7v, hel] at *
    obtain ⟨h0, hlt, hle, hk, h1⟩ := hok
    obtain ⟨vs, rfl, hsz, hc⟩ := i5T hx
    obtain ⟨inf, u, hi, hu2, es, _, ek, _⟩ := d9y hk
    have ea : d6j (some u) = (Yk P el).k.agg := by rw [ek, i4o]
    obtain ⟨v, h2, h3⟩ := i4u (P := P) (t := el) (w := w) (μ := μ) (st := st) (off := m.toNat * (Yk P el).size) (sz := (Yk P el).size) hsz hc hle h1 hu2 ea (fun _ => ⟨inf, hi, es.symm⟩)
    refine ⟨v, ?_, h3⟩
    simp [Instr.index, d3w, run_underlying hu, h0, hlt, ZE hi, ← es, h2]
   | _ => simp only [d7v, hel] at hok; exact hok.elim
 | _ => exact hok.elim
theorem d7U {P : Program} {w : World} {μ : Mu} {st : St} {x : D} {v : Value} (h : VR w μ st v x) (hok : i5R (some x)) {y : Nat} {code : BoundsCode} (hy : d0x (some x) 0 ≤ y) :
  (Instr.sliceBound v y code).run P w = .ok (d0x (some x) 0) w := by
 cases x with
 | int k m =>
  have := d5n h; subst this
  have h0 : 0 ≤ m := hok
  have h1 : m ≤ (y : Int) := by simp only [d0x] at hy; omega
  simp [Instr.sliceBound, d3w, h0, h1, d0x]
 | _ => exact hok.elim
def p3H (w : World) (μ : Mu) (st : St) : Option Value → Option D → Prop
 | none, none => True
 | some v, some d => VR w μ st v d
 | _, _ => False
theorem d5o {x : D} (h : i5R (some x)) (n m : Nat) : d0x (some x) n = d0x (some x) m := by
 cases x with
 | int k i => rfl
 | _ => exact h.elim
theorem i3T (n : Nat) : d0x none n = n := rfl
theorem d6I {P : Program} {w : World} {μ : Mu} {st : St} {lo hi mx : Option Value} {dlo dhi dmx : Option D} (hlo : p3H w μ st lo dlo) (hhi : p3H w μ st hi dhi) (hmx : p3H w μ st mx dmx)
  (blo : i5R dlo) (bhi : i5R dhi) (bmx : i5R dmx) {len cap : Nat} {isS : Bool} (hm : dmx.isSome = true → dhi.isSome = true)
  (h1 : d0x dlo 0 ≤ d0x dhi len) (h2 : d0x dhi len ≤ d0x dmx cap) (h3 : d0x dmx cap ≤ cap) :
  (Instr.sliceBounds isS len cap lo hi mx).run P w = .ok (d0x dlo 0, d0x dhi len, d0x dmx cap) w := by
 unfold Instr.sliceBounds
 cases dmx with
 | none =>
  cases mx with
  | some _ => exact hmx.elim
  | none =>
   cases dhi with
   | none =>
    cases hi with
    | some _ => exact hhi.elim
    | none =>
     cases dlo with
     | none => cases lo with
      | some _ => exact hlo.elim
      | none => simp [d0x]
     | some l => cases lo with
      | none => exact hlo.elim
      | some vl =>
       have e := fun c => d7U (P := P) (code := c) hlo blo (y := len) (by simpa [d0x] using h1)
       simp [e, i3T]
   | some hD =>
    cases hi with
    | none => exact hhi.elim
    | some vh =>
     have eh := fun c => d7U (P := P) (code := c) hhi bhi (y := cap) (by rw [d5o bhi 0 len]; simpa [d0x] using h2)
     have eq := d5o bhi 0 len
     cases dlo with
     | none => cases lo with
      | some _ => exact hlo.elim
      | none => simp [eh, eq, i3T]
     | some l => cases lo with
      | none => exact hlo.elim
      | some vl =>
       have e := fun c => d7U (P := P) (code := c) hlo blo (y := d0x (some hD) 0) (by rw [eq]; exact h1)
       simp [eh, e, i3T]; exact eq
 | some mD =>
  cases mx with
  | none => exact hmx.elim
  | some vm =>
   have em := fun c => d7U (P := P) (code := c) hmx bmx (y := cap) (by rw [d5o bmx 0 cap]; exact h3)
   have eqm := d5o bmx 0 cap
   cases dhi with
   | none => exact absurd (hm rfl) (by simp)
   | some hD =>
    cases hi with
    | none => exact hhi.elim
    | some vh =>
     have eq := d5o bhi 0 len
     have eh := fun c => d7U (P := P) (code := c) hhi bhi (y := d0x (some mD) 0) (by rw [eq, eqm]; exact h2)
     cases dlo with
     | none => cases lo with
      | some _ => exact hlo.elim
      | none => simp [em, eh, i3T]; exact ⟨eq, eqm⟩
     | some l => cases lo with
      | none => exact hlo.elim
      | some vl =>
       have e := fun c => d7U (P := P) (code := c) hlo blo (y := d0x (some hD) 0) (by rw [eq]; exact h1)
       simp [em, eh, e]; exact ⟨eq, eqm⟩
theorem d4V (s : Bs) : (bs s).size = s.length := by simp [bs, ByteArray.size]
theorem i4v (s : Bs) (l h : Nat) : (bs s).extract l h = bs ((s.drop l).take (h - l)) := by
 apply ByteArray.ext
 simp [bs, ByteArray.data_extract, List.extract_toArray, List.extract_eq_take_drop]
theorem i7d {P : Program} {t : TypeId} {w : World} {μ : Mu} {st : St} {vx : Value} {x : D} {lo hi mx : Option Value} {dlo dhi dmx : Option D} {e : Nat} (hs : Sim w μ st) (hx : VR w μ st vx x)
  (hlo : p3H w μ st lo dlo) (hhi : p3H w μ st hi dhi) (hmx : p3H w μ st mx dmx) (he : ∀ el, (Yk P t).k = .slice el → e = (Yk P el).size)
  (hok : (d8M (Yk P t) e (look st) x dlo dhi dmx).ok) :
  ∃ v, (Instr.sliceAt t vx lo hi mx).run P w = .ok v w ∧ VR w μ st v (d8M (Yk P t) e (look st) x dlo dhi dmx).d := by
 cases x with
 | str s =>
  simp only [d8M] at *
  obtain ⟨hk, blo, bhi, rfl, h1, h2⟩ := hok
  have hu := i2H hk
  have := d6t hx; subst this
  cases mx with
  | some _ => exact hmx.elim
  | none =>
   have hb := d6I (P := P) (isS := false) hlo hhi hmx blo bhi trivial (len := (bs s).size) (cap := (bs s).size) (by simp) (by rw [d4V]; exact h1) (by rw [d4V]; exact h2) (Nat.le_refl _)
   rw [d4V] at hb
   refine ⟨.string (bs ((s.drop (d0x dlo 0)).take (d0x dhi s.length - d0x dlo 0))), ?_, i8h _ _ _ _⟩
   simp [Instr.sliceAt, run_underlying hu, Instr.slice, hb, i4v, d4V]
 | sl full n b es =>
  simp only [d8M] at *
  obtain ⟨⟨el, hk⟩, hne, he0, blo, bhi, bmx, hm, h1, h2, h3⟩ := hok
  have hu := d5m hk
  have hes := he el hk
  obtain ⟨inf, i7b, hsz⟩ := d1u (P := P) (t := el) (by rw [← hes]; exact he0)
  cases hx with
  | tr h =>
   cases h with
   | sl _ _ _ _ a len cap cv hlen hcap i3R hb hb1 hn ha hc =>
    subst hlen
    cases dmx with
    | none =>
     cases mx with
     | some _ => exact hmx.elim
     | none =>
      simp only [i3T] at h2 h3
      have hb2 := d6I (P := P) (isS := true) hlo hhi hmx blo bhi trivial (len := es.length) (cap := cap) (by simp) h1 (by rw [i3T]; omega) (Nat.le_refl _)
      refine ⟨.slice (if cap = d0x dlo 0 then a else a.map (·.add (d0x dlo 0 * inf.size))) (d0x dhi es.length - d0x dlo 0) (cap - d0x dlo 0), ?_, ?_⟩
      ·simp [Instr.sliceAt, run_underlying hu, Instr.slice, hb2, ZE i7b, i3T]
      ·refine .tr (.sl _ _ _ _ _ _ _ (fun i j => cv (d0x dlo 0 + i) j) (by simp; omega) (by omega) (fun hf => ?_) ?_ hb1 (fun e he => hn e (List.mem_of_mem_drop (List.mem_of_mem_take he))) ?_ (fun i j hi hj => ?_))
       ·simp at hf
        have := i3R hf.1
        omega
       ·have : ((es.drop (d0x dlo 0)).take (d0x dhi es.length - d0x dlo 0)).length ≤ es.length := by simp; omega
        exact Nat.le_trans (Nat.mul_le_mul_right b this) hb
       ·by_cases hemp : (es.drop (d0x dlo 0)).take (d0x dhi es.length - d0x dlo 0) = []
        ·exact .inl hemp
        ·have hpos : 0 < ((es.drop (d0x dlo 0)).take (d0x dhi es.length - d0x dlo 0)).length := List.length_pos_iff.2 hemp
         simp at hpos
         rcases ha with ha | ⟨blk, off, ea, i1X, hown, hcell⟩
         ·subst ha; simp at hpos
         ·refine .inr ⟨blk, off + d0x dlo 0 * n, ?_, i1X, hown, fun i j hi hj => ?_⟩
          ·rw [if_neg (by omega), ea, Option.map_some, d7S, hne, hes, hsz]
          ·simp at hi
           have := hcell (d0x dlo 0 + i) j (by omega) hj
           rw [Nat.add_mul] at this
           rw [show off + d0x dlo 0 * n + (i * n + j) = off + (d0x dlo 0 * n + i * n + j) by omega]
           exact this
       ·simp at hi
        have := hc (d0x dlo 0 + i) j (by omega) (by simpa using hj)
        simpa using this
    | some mD =>
     cases mx with
     | none => exact hmx.elim
     | some vm =>
      have em : d0x (some mD) 0 = d0x (some mD) es.length := d5o bmx _ _
      have em2 : d0x (some mD) cap = d0x (some mD) es.length := d5o bmx _ _
      have hb2 := d6I (P := P) (isS := true) hlo hhi hmx blo bhi bmx (len := es.length) (cap := cap) hm h1 (by rw [em2]; exact h2) (by omega)
      rw [em2] at hb2
      refine ⟨.slice (if d0x (some mD) es.length = d0x dlo 0 then a else a.map (·.add (d0x dlo 0 * inf.size))) (d0x dhi es.length - d0x dlo 0) (d0x (some mD) es.length - d0x dlo 0), ?_, ?_⟩
      ·simp [Instr.sliceAt, run_underlying hu, Instr.slice, hb2, ZE i7b]
      ·refine .tr (.sl _ _ _ _ _ _ _ (fun i j => cv (d0x dlo 0 + i) j) (by simp; omega) (by omega) (fun hf => ?_) ?_ hb1 (fun e he => hn e (List.mem_of_mem_drop (List.mem_of_mem_take he))) ?_ (fun i j hi hj => ?_))
       ·simp at hf
        omega
       ·have : ((es.drop (d0x dlo 0)).take (d0x dhi es.length - d0x dlo 0)).length ≤ es.length := by simp; omega
        exact Nat.le_trans (Nat.mul_le_mul_right b this) hb
       ·by_cases hemp : (es.drop (d0x dlo 0)).take (d0x dhi es.length - d0x dlo 0) = []
        ·exact .inl hemp
        ·have hpos : 0 < ((es.drop (d0x dlo 0)).take (d0x dhi es.length - d0x dlo 0)).length := List.length_pos_iff.2 hemp
         simp at hpos
         rcases ha with ha | ⟨blk, off, ea, i1X, hown, hcell⟩
         ·subst ha; simp at hpos
         ·refine .inr ⟨blk, off + d0x dlo 0 * n, ?_, i1X, hown, fun i j hi hj => ?_⟩
          ·rw [if_neg (by omega), ea, Option.map_some, d7S, hne, hes, hsz]
          ·simp at hi
           have := hcell (d0x dlo 0 + i) j (by omega) hj
           rw [Nat.add_mul] at this
           rw [show off + d0x dlo 0 * n + (i * n + j) = off + (d0x dlo 0 * n + i * n + j) by omega]
           exact this
       ·simp at hi
        have := hc (d0x dlo 0 + i) j (by omega) (by simpa using hj)
        simpa using this
 | ref full o g off len =>
  simp only [d8M] at *
  cases hl : look st o with
  | none => rw [hl] at hok; exact hok.elim
  | some ob =>
   rw [hl] at hok
   cases ob with
   | arr g' n b es =>
    obtain ⟨⟨el, hk⟩, rfl, hne, he0, blo, bhi, bmx, hm, h1, h2, h3⟩ := hok
    have hu := d5m hk
    have hes := he el hk
    obtain ⟨inf, i7b, hsz⟩ := d1u (P := P) (t := el) (by rw [← hes]; exact he0)
    have ho := d0A hl
    cases hx with
    | tr h => cases h
    | ref _ _ _ _ _ _ hvv hol hr hg h =>
     obtain ⟨a, cap, ev, c1, c2, c3, c4⟩ := h _ _ _ ho
     subst ev
     have shape : ∀ m f, d0x dhi len ≤ m → m ≤ cap → (f = true → m = d0x dhi len) → d9x w (μ o) n es f (off + d0x dlo 0) (d0x dhi len - d0x dlo 0)
       (.slice (if m = d0x dlo 0 then a else a.map (·.add (d0x dlo 0 * inf.size))) (d0x dhi len - d0x dlo 0) (m - d0x dlo 0)) := by
      intro m f hm1 hm2 hmf
      refine ⟨_, _, rfl, by omega, by omega, fun hf => by rw [hmf hf], ?_⟩
      by_cases hz : m = d0x dlo 0
      ·left; omega
      ·right
       rcases c4 with c4 | ⟨blk, base, em, ea, c, ty, hh, r0l⟩
       ·omega
       ·refine ⟨blk, base, em, ?_, c, ty, hh, ?_⟩
        ·rw [if_neg hz, ea, Option.map_some, d7S, ← hsz, ← hes, ← hne, Nat.add_mul]; congr 2; omega
        ·have : (off + d0x dlo 0 + (m - d0x dlo 0)) * n ≤ (off + cap) * n := Nat.mul_le_mul_right n (by omega)
         omega
     cases dmx with
     | none =>
      cases mx with
      | some _ => exact hmx.elim
      | none =>
       simp only [i3T] at h2 h3
       have hb2 := d6I (P := P) (isS := true) hlo hhi hmx blo bhi trivial (len := len) (cap := cap) (by simp) h1 (by rw [i3T]; omega) (Nat.le_refl _)
       refine ⟨.slice (if cap = d0x dlo 0 then a else a.map (·.add (d0x dlo 0 * inf.size))) (d0x dhi len - d0x dlo 0) (cap - d0x dlo 0), by simp [Instr.sliceAt, run_underlying hu, Instr.slice, hb2, ZE i7b, i3T], .ref _ _ o g' _ _ ⟨_, _, _, rfl⟩ hol hr hg (fun n' b' es' e' => ?_)⟩
       rw [ho] at e'; cases e'
       refine shape cap _ (by omega) (Nat.le_refl _) (fun hf => ?_)
       simp at hf
       have := c3 hf.1
       omega
     | some mD =>
      cases mx with
      | none => exact hmx.elim
      | some vm =>
       have em : d0x (some mD) 0 = d0x (some mD) len := d5o bmx _ _
       have em2 : d0x (some mD) cap = d0x (some mD) len := d5o bmx _ _
       have hb2 := d6I (P := P) (isS := true) hlo hhi hmx blo bhi bmx (len := len) (cap := cap) hm h1 (by rw [em2]; exact h2) (by omega)
       rw [em2] at hb2
       refine ⟨.slice (if d0x (some mD) len = d0x dlo 0 then a else a.map (·.add (d0x dlo 0 * inf.size))) (d0x dhi len - d0x dlo 0) (d0x (some mD) len - d0x dlo 0), by simp [Instr.sliceAt, run_underlying hu, Instr.slice, hb2, ZE i7b], .ref _ _ o g' _ _ ⟨_, _, _, rfl⟩ hol hr hg (fun n' b' es' e' => ?_)⟩
       rw [ho] at e'; cases e'
       refine shape (d0x (some mD) len) _ (by omega) (by omega) (fun hf => ?_)
       simp at hf
       omega
   | mps => exact hok.elim
   | mpi => exact hok.elim
   | sit => exact hok.elim
   | resv => exact hok.elim
 | YP =>
  simp only [d8M] at *
  obtain ⟨⟨el, hk⟩, he0, blo, bhi, bmx, hm, h1, h2, h3⟩ := hok
  have hu := d5m hk
  obtain ⟨inf, i7b, hsz⟩ := d1u (P := P) (t := el) (by rw [← he el hk]; exact he0)
  have := i1n hx; subst this
  have hb2 := d6I (P := P) (isS := true) hlo hhi hmx blo bhi bmx (len := 0) (cap := 0) hm (by omega) (by omega) (by omega)
  refine ⟨.slice none 0 0, ?_, .tr .YP⟩
  simp [Instr.sliceAt, run_underlying hu, Instr.slice, hb2, ZE i7b, h1, h2, h3]
 | _ => exact hok.elim
def i0C (w : World) (μ : Mu) (st : St) (vs : Array Value) (cs : List D) : Prop := vs.size = cs.length ∧ ∀ j (h : j < cs.length), VR w μ st (vs.getD j undef) (cs[j])
theorem fold_size (off : Nat) : ∀ (l : List (Value × Nat)) (cells : Array Value), (l.foldl (fun cs (p : Value × Nat) => cs.setIfInBounds (off + p.2) p.1) cells).size = cells.size
 | [], _ => rfl
 | p :: l, cells => by simp only [List.foldl_cons]; rw [fold_size off l]; simp
theorem i4Y (off : Nat) : ∀ (vs : List Value) (k : Nat) (cells : Array Value) (q : Nat), off + k + vs.length ≤ cells.size →
  ((vs.zipIdx k).foldl (fun cs (p : Value × Nat) => cs.setIfInBounds (off + p.2) p.1) cells)[q]? = if off + k ≤ q ∧ q < off + k + vs.length then vs[q - (off + k)]? else cells[q]?
 | [], k, cells, q, _ => by simp; omega
 | v :: vs, k, cells, q, h => by
  simp only [List.zipIdx_cons, List.foldl_cons]
  rw [i4Y off vs (k + 1) _ q (by simp at h ⊢; omega)]
  simp only [List.length_cons] at *
  by_cases h1 : q = off + k
  ·subst h1
   rw [if_neg (by omega), if_pos (by omega)]
   simp [Array.getElem?_setIfInBounds]; omega
  ·by_cases h2 : off + (k + 1) ≤ q ∧ q < off + (k + 1) + vs.length
   ·rw [if_pos h2, if_pos (by omega)]
    rw [show q - (off + k) = (q - (off + (k + 1))) + 1 by omega, List.getElem?_cons_succ]
   ·rw [if_neg h2, if_neg (by omega), Array.getElem?_setIfInBounds_ne (by omega)]
theorem d7J {vs : Array Value} {j : Nat} {v : Value} (h : vs[j]? = some v) : vs.getD j undef = v := by simp [Array.getD_eq_getD_getElem?, h]
theorem i0C.splice {w : World} {μ : Mu} {st : St} {vs : Array Value} {cs : List D} {us : Array Value} {ds : List D} {off : Nat} (h : i0C w μ st vs cs) (h2 : i0C w μ st us ds)
  (hle : off + ds.length ≤ cs.length) : i0C w μ st (us.zipIdx.foldl (fun cs (c, j) => cs.setIfInBounds (off + j) c) vs) (splice cs off ds) := by
 have e : (us.zipIdx.foldl (fun cs (c, j) => cs.setIfInBounds (off + j) c) vs) = ((us.toList.zipIdx 0).foldl (fun cs (p : Value × Nat) => cs.setIfInBounds (off + p.2) p.1) vs) := by
  rw [← Array.foldl_toList]; simp
 rw [e]
 refine ⟨by rw [fold_size, d5i hle]; exact h.1, fun j hj => ?_⟩
 rw [d5i hle] at hj
 have hg := i4Y off us.toList 0 vs j (by simp; rw [h.1, h2.1]; omega)
 have hsg := i4r hle j
 rw [List.getElem?_eq_getElem (by rw [d5i hle]; exact hj)] at hsg
 by_cases hin : off ≤ j ∧ j < off + ds.length
 ·rw [if_pos (by simp; rw [h2.1]; omega)] at hg
  rw [if_pos hin, List.getElem?_eq_getElem (by omega)] at hsg
  rw [Option.some.inj hsg]
  have := h2.2 (j - off) (by omega)
  have hlt : j - off < us.size := by rw [h2.1]; omega
  rw [d7J (v := us[j - off]) (by simpa [hlt] using hg)]
  simpa [Array.getD_eq_getD_getElem?, hlt] using this
 ·rw [if_neg (by simp; rw [h2.1]; omega)] at hg
  rw [if_neg hin, List.getElem?_eq_getElem hj] at hsg
  rw [Option.some.inj hsg]
  have := h.2 j hj
  have hlt : j < vs.size := by rw [h.1]; omega
  rw [d7J (v := vs[j]) (by simpa [hlt] using hg)]
  simpa [Array.getD_eq_getD_getElem?, hlt] using this
theorem i2L {w : World} {μ : Mu} {st : St} {v : Value} {ag : Bool} {sz : Nat} {x : D} (h : VR w μ st v x) (hok : i5S ag sz x) :
  i0C w μ st v.cells (d7T ag x) ∧ (d7T ag x).length = sz := by
 unfold i5S at hok
 unfold d7T
 split at hok
 ·rename_i hag
  cases x with
  | agg cs =>
   simp only [hag, if_true]
   obtain ⟨vs, rfl, hsz, hc⟩ := i5T h
   exact ⟨⟨hsz, hc⟩, hok⟩
  | _ => exact hok.elim
 ·rename_i hag
  obtain ⟨h1, hsz⟩ := hok
  have i9R := i0A h h1
  have hcs : v.cells = #[v] := by cases v <;> first | rfl | (simp [Value.oneCell'] at i9R)
  simp only [hag]
  refine ⟨⟨by rw [hcs]; rfl, fun j hj => ?_⟩, by simp [hsz]⟩
  simp at hj
  subst hj
  rw [hcs]; simpa using h
theorem d7V {P : Program} {t : TypeId} {w : World} {μ : Mu} {st : St} (hz : (Yk P t).zero.length = (Yk P t).size) (h0 : (Yk P t).size ≠ 0) :
  ∃ inf z, P.info? t = some inf ∧ inf.zero = some z ∧ i0C w μ st z.cells (Yk P t).zero := by
 obtain ⟨inf, hi, hsz⟩ := d1u h0
 cases hzz : inf.zero with
 | none => exfalso; apply h0; rw [← hz]; simp [Yk, hi, hzz]
 | some z =>
  have ez := i1Y hzz hi
  refine ⟨inf, z, hi, hzz, by rw [ez]; simp, fun j hj => ?_⟩
  rw [ez] at hj
  simp at hj
  simp only [ez, List.getElem_map, Array.getElem_toList]
  rw [d7J (v := z.cells[j]) (by simp [hj])]
  exact d5W _ _ _ _
def i2M (w : World) (μ : Mu) (st : St) : List (Nat × Value) → List (Nat × D) → Prop
 | [], [] => True
 | (i, v) :: a, (j, d) :: b => i = j ∧ VR w μ st v d ∧ i2M w μ st a b
 | _, _ => False
theorem i2N {w : World} {μ : Mu} {st : St} {fs : List (Nat × Nat × Bool)} {place : Nat → Option (Nat × Nat)} {size : Nat}
  (hp : ∀ f off sz ag, fs[f]? = some (off, sz, ag) → place f = some (off, sz)) :
  ∀ (ps : List (Nat × Value)) (ds : List (Nat × D)) (vs : Array Value) (cs : List D), i2M w μ st ps ds → i0C w μ st vs cs → cs.length = size → d5j fs size ds →
   ∃ vs', Instr.fill place vs ps = some vs' ∧ i0C w μ st vs' (d6K fs cs ds)
 | [], [], vs, cs, _, h, _, _ => ⟨vs, rfl, h⟩
 | (i, v) :: ps, (j, d) :: ds, vs, cs, hps, h, hl, hok => by
  obtain ⟨rfl, hv, hps⟩ := hps
  simp only [d5j] at hok
  cases hf : fs[i]? with
  | none => rw [hf] at hok; exact hok.elim
  | some x =>
   obtain ⟨off, sz, ag⟩ := x
   rw [hf] at hok
   obtain ⟨h1, h2, h3⟩ := hok
   obtain ⟨c1, c2⟩ := i2L hv h1
   have p5d := h.splice c1 (off := off) (by rw [c2, hl]; exact h2)
   obtain ⟨vs', e1, e2⟩ := i2N hp ps ds _ _ hps p5d (by rw [d5i (by rw [c2, hl]; exact h2)]; exact hl) h3
   refine ⟨vs', ?_, by simp only [d6K, hf]; exact e2⟩
   simp only [Instr.fill, hp _ _ _ _ hf]
   rw [if_neg]
   ·exact e1
   ·simp only [Bool.or_eq_true, decide_eq_true_eq, not_or, ne_eq]
    refine ⟨?_, ?_⟩
    ·rw [c1.1, c2]; simp
    ·rw [c1.1, c2, h.1, hl]; simp; exact h2
 | [], _ :: _, _, _, h, _, _, _ => h.elim
 | _ :: _, [], _, _, h, _, _, _ => h.elim
theorem i2O {P : Program} : ∀ (l : List Field), (∀ f ∈ l, ∃ inf, P.info? f.type = some inf) →
  l.mapM (fun f => (P.info? f.type).map fun i => (f.offset, i.size)) = some (l.map fun f => (f.offset, ((P.info? f.type).map (·.size)).getD 0))
 | [], _ => rfl
 | f :: l, h => by
  obtain ⟨inf, hi⟩ := h f (by simp)
  have ih := i2O (P := P) l (fun g hg => h g (by simp [hg]))
  simp [List.mapM_cons, hi, ih]
theorem i7e {P : Program} {t el : TypeId} {w : World} {μ : Mu} {st : St} {ps : Array (Nat × Value)} {ds : List (Nat × D)} (hps : i2M w μ st ps.toList ds)
  (hk : (∃ fs, (Yk P t).k = .struct fs) ∨ False)
  (hok : (i0B (Yk P t) (Yk P el) ds).ok) :
  ∃ v, (Instr.build t ps).run P w = .ok v w ∧ VR w μ st v (i0B (Yk P t) (Yk P el) ds).d := by
 rcases hk with ⟨fs, hk⟩ | h
 ·have hkk := hk
  simp only [i0B, hk] at hok ⊢
  obtain ⟨h1, h2, h3, h4⟩ := hok
  obtain ⟨fields, hu, rfl⟩ := i4X hk
  obtain ⟨inf, z, hi, hz, hc⟩ := d7V (w := w) (μ := μ) (st := st) h1 h2
  have hall : ∀ f ∈ fields.toList, ∃ inf u, P.info? f.type = some inf ∧ P.underlying f.type = some u ∧ inf.size = fsz P f.type := fun f hf => by
   have := List.all_eq_true.1 h3 _ (List.mem_map_of_mem hf)
   exact i2I rfl (by simpa using this)
  have hm := i2O (P := P) fields.toList (fun f hf => let ⟨inf, _, h, _⟩ := hall f hf; ⟨inf, h⟩)
  obtain ⟨vs', e1, e2⟩ := i2N (w := w) (μ := μ) (st := st) (place := fun f => (fields.toList.map fun f => (f.offset, ((P.info? f.type).map (·.size)).getD 0)).toArray[f]?) (size := (Yk P t).size) (fun f off sz ag hf => by
   obtain ⟨fld, a1, a2, a3, a4⟩ := i9V hf
   obtain ⟨r2H, u2, b1, b2, b3⟩ := hall fld (by simpa using Array.mem_of_getElem? a1)
   have a1' : fields.toList[f]? = some fld := by simpa using a1
   simp [a1', b1, b3, a2, a3]) ps.toList ds z.cells (Yk P t).zero hps hc h1 h4
  refine ⟨.agg vs', run_build w t ps vs' ?_, .agg _ _ e2.1 e2.2⟩
  simp only [Program.built, hi, hu, hz, hm]
  exact e1
 ·exact h.elim
def i0D (w : World) (μ : Mu) (st : St) (n : Nat) (vs : Array Value) (es : List (List D)) : Prop :=
 vs.size = es.length * n ∧ (∀ e ∈ es, e.length = n) ∧ ∀ i j (hi : i < es.length) (hj : j < (es[i]).length), ∃ v, vs[i * n + j]? = some v ∧ VR w μ st v ((es[i])[j]) ∧ v.oneCell' = true
theorem i2P {w : World} {μ : Mu} {st : St} {z : Value} {zs : List D} {len : Nat} (h : i0C w μ st z.cells zs) (h1 : zs.all D.one = true) (h0 : zs.length ≠ 0) :
  i0D w μ st zs.length ((Array.range (len * zs.length)).map (z.cells[· % z.cells.size]!)) (List.replicate len zs) := by
 refine ⟨by simp, fun e he => by rw [List.eq_of_mem_replicate he], fun i j hi hj => ?_⟩
 simp at hi
 simp only [List.getElem_replicate] at hj ⊢
 have hlt : i * zs.length + j < len * zs.length := by
  have : (i + 1) * zs.length ≤ len * zs.length := Nat.mul_le_mul_right _ hi
  rw [Nat.add_mul] at this; omega
 have hmod : (i * zs.length + j) % z.cells.size = j := by
  rw [h.1, Nat.add_comm, Nat.add_mul_mod_self_right, Nat.mod_eq_of_lt hj]
 have hjs : j < z.cells.size := by rw [h.1]; exact hj
 have hv := h.2 j hj
 rw [d7J (v := z.cells[j]) (by simp [hjs])] at hv
 refine ⟨z.cells[j], ?_, hv, i0A hv (List.all_eq_true.1 h1 _ (List.getElem_mem hj))⟩
 rw [Array.getElem?_map, Array.getElem?_range]
 simp [hlt, hmod, hjs]
theorem i0D.set {w : World} {μ : Mu} {st : St} {n : Nat} {vs : Array Value} {es : List (List D)} {us : Array Value} {ds : List D} {k : Nat} (h : i0D w μ st n vs es) (hk : k < es.length)
  (hsz : us.size = n) (hl : ds.length = n) (hu : ∀ j (hj : j < ds.length), ∃ u, us[j]? = some u ∧ VR w μ st u (ds[j]) ∧ u.oneCell' = true) :
  i0D w μ st n (us.zipIdx.foldl (fun cs (c, j) => cs.setIfInBounds (k * n + j) c) vs) (es.set k ds) := by
 have e : (us.zipIdx.foldl (fun cs (c, j) => cs.setIfInBounds (k * n + j) c) vs) = ((us.toList.zipIdx 0).foldl (fun cs (p : Value × Nat) => cs.setIfInBounds (k * n + p.2) p.1) vs) := by
  rw [← Array.foldl_toList]; simp
 rw [e]
 have hkn : k * n + n ≤ es.length * n := by
  have : (k + 1) * n ≤ es.length * n := Nat.mul_le_mul_right n hk
  rw [Nat.add_mul] at this; omega
 have hg := fun q => i4Y (k * n) us.toList 0 vs q (by simp; rw [h.1, hsz]; exact hkn)
 refine ⟨by rw [fold_size, h.1]; simp, fun x hx => ?_, fun i j hi hj => ?_⟩
 ·rcases List.mem_or_eq_of_mem_set hx with h' | h'
  ·exact h.2.1 x h'
  ·rw [h']; exact hl
 ·simp at hi
  rw [hg]
  by_cases hik : i = k
  ·subst hik
   simp only [List.getElem_set_self] at hj ⊢
   obtain ⟨u, eu, hu1, hu2⟩ := hu j hj
   refine ⟨u, ?_, hu1, hu2⟩
   rw [if_pos (by simp; rw [hsz]; omega)]
   simpa using eu
  ·have p5e : (es.set k ds)[i]'(by simpa using hi) = es[i] := by simp [List.getElem_set, Ne.symm hik]
   simp only [p5e] at hj ⊢
   obtain ⟨u, eu, hu1, hu2⟩ := h.2.2 i j hi hj
   have hji : j < n := by rw [← h.2.1 _ (List.getElem_mem hi)]; exact hj
   have := p3a hji hik
   refine ⟨u, ?_, hu1, hu2⟩
   rw [if_neg (by simp; rw [hsz]; omega)]; exact eu
theorem i2Q {w : World} {μ : Mu} {st : St} {e : TI} {len : Nat} :
  ∀ (ps : List (Nat × Value)) (ds : List (Nat × D)) (vs : Array Value) (es : List (List D)), i2M w μ st ps ds → i0D w μ st e.size vs es → es.length = len → (∀ p ∈ ds, d6k e p.2 ∧ p.1 < len) →
   ∃ vs', Instr.fill (fun i => some (i * e.size, e.size)) vs ps = some vs' ∧ i0D w μ st e.size vs' (d7H es (ds.map fun p => (p.1, cellsOf e p.2)))
 | [], [], vs, es, _, h, _, _ => ⟨vs, rfl, h⟩
 | (i, v) :: ps, (j, d) :: ds, vs, es, hps, h, hl, hok => by
  obtain ⟨rfl, hv, hps⟩ := hps
  obtain ⟨h1, h2⟩ := hok (i, d) (by simp)
  obtain ⟨c1, c2, c3⟩ := i0i hv h1
  have p5e := h.set (k := i) (by omega) c1 c2 c3
  obtain ⟨vs', e1, e2⟩ := i2Q ps ds _ _ hps p5e (by simpa using hl) (fun p hp => hok p (by simp [hp]))
  refine ⟨vs', ?_, e2⟩
  simp only [Instr.fill]
  rw [if_neg]
  ·exact e1
  ·simp only [Bool.or_eq_true, decide_eq_true_eq, not_or, ne_eq]
   have : i * e.size + e.size ≤ es.length * e.size := by
    have : (i + 1) * e.size ≤ es.length * e.size := Nat.mul_le_mul_right _ (by simp at h2; omega)
    rw [Nat.add_mul] at this; omega
   refine ⟨by simp [c1], ?_⟩
   rw [c1, h.1]; simp; exact this
 | [], _ :: _, _, _, h, _, _, _ => h.elim
 | _ :: _, [], _, _, h, _, _, _ => h.elim
theorem d9V (l : List (Nat × List D)) : ∀ (es : List (List D)), (d7H es l).length = es.length := by
 induction l with
 | nil => intro es; rfl
 | cons p l ih => intro es; simp only [d7H, ih]; simp
theorem i2i {P : Program} {t el : TypeId} {w : World} {μ : Mu} {st : St} {ps : Array (Nat × Value)} {ds : List (Nat × D)} {len q : Nat} (hs : Sim w μ st) (hps : i2M w μ st ps.toList ds)
  (hel : (Yk P t).k = .slice el) (hok : (d6L (Yk P t) (Yk P el) len ds q).ok) (hq : st[q]? = some (some .resv)) :
  ∃ v w' μ' ob, (Instr.buildSlice t len ps).run P w = .ok v w' ∧ (d6L (Yk P t) (Yk P el) len ds q).new = some ob ∧ Sim w' μ' (st.set q (some ob)) ∧ Step w μ st w' μ' (st.set q (some ob)) ∧
   VR w' μ' (st.set q (some ob)) v (d6L (Yk P t) (Yk P el) len ds q).d := by
 obtain ⟨_, h1, h2, h3, h4, h5, h6⟩ := hok
 have hu := d5m hel
 obtain ⟨inf, z, hi, hz, hc⟩ := d7V (w := w) (μ := μ) (st := st) h1 h2
 obtain ⟨inf', hi', hsz⟩ := d1u h2
 rw [hi] at hi'; cases hi'
 have hz0 := i2P (len := len) hc h3 (by rw [h1]; exact h2)
 rw [h1] at hz0
 obtain ⟨vs', e1, e2⟩ := i2Q (len := len) ps.toList ds _ _ hps hz0 (by simp) h4
 have hlt : q < st.length := (List.getElem?_eq_some_iff.1 hq).1
 have hlen : (d7H (List.replicate len (Yk P el).zero) (ds.map fun p => (p.1, cellsOf (Yk P el) p.2))).length = len := by rw [d9V]; simp
 have h := d7u (x := .cells vs' el) (ob := .arr 0 (Yk P el).size (Yk P el).bytes (d7H (List.replicate len (Yk P el).zero) (ds.map fun p => (p.1, cellsOf (Yk P el) p.2)))) hs hq
  (fun s => i2F e2.2.2 (by rw [e2.1]; exact Nat.le_refl _) e2.2.1 (by rw [hlen]; exact h6) s)
 refine ⟨.slice (some ⟨w.heap.size, 0, none⟩) len len, _, _, _, ?_, rfl, h.1, h.2, ?_⟩
 ·have h5' : ¬ (2 ^ 24 < len * inf.size) := by rw [← hsz]; omega
  have i7f : Instr.fill (fun i => some (i * inf.size, inf.size)) ((Array.range (len * inf.size)).map (z.cells[· % z.cells.size]!)) ps.toList = some vs' := by
   rw [← hsz]; exact e1
  by_cases hl0 : len * inf.size = 0
  ·have : len = 0 := by
    rcases Nat.mul_eq_zero.1 hl0 with h | h
    ·exact h
    ·rw [← hsz] at h; exact absurd h h2
   subst this
   have r0 : Array.range 0 = (#[] : Array Nat) := rfl
   simp [r0] at i7f
   simp [Instr.buildSlice, run_underlying hu, ZE hi, newRow, r0, i7f]
  ·simp only [Instr.buildSlice, run_underlying hu, Sem.run_bind, Result.andThen_ok, ZE hi]
   simp [h5', hl0, zeroValue, typeInfo, hi, hz, newRow]
   rw [i7f]
   simp
 ·refine .ref _ true q 0 0 len ⟨_, _, _, rfl⟩ (by simpa using hlt) (by simp [hlt]) (fun g' n b es e => Nat.zero_le _) (fun n b es e => ?_)
  rw [List.getElem?_set_self hlt] at e
  cases e
  refine ⟨_, _, rfl, Nat.le_refl _, by rw [hlen]; omega, fun _ => rfl, .inr ⟨w.heap.size, 0, by rw [ZS], by simp, vs', el, heap_alloc_new _ _, ?_⟩⟩
  rw [e2.1, hlen]; simp
theorem i2R {P : Program} {t el : TypeId} {w : World} {μ : Mu} {st : St} {vl vc : Value} {l c : D} {q : Nat} (hs : Sim w μ st) (hl : VR w μ st vl l) (hc : VR w μ st vc c)
  (hel : (Yk P t).k = .slice el) (hok : (d2k (Yk P t) (Yk P el) l c q).ok) (hq : st[q]? = some (some .resv)) :
  ∃ v w' μ' ob, (Instr.makeSlice t vl vc).run P w = .ok v w' ∧ (d2k (Yk P t) (Yk P el) l c q).new = some ob ∧ Sim w' μ' (st.set q (some ob)) ∧ Step w μ st w' μ' (st.set q (some ob)) ∧
   VR w' μ' (st.set q (some ob)) v (d2k (Yk P t) (Yk P el) l c q).d := by
 unfold d2k at hok
 split at hok
 ·rename_i l c
  have := d5n hl; subst this
  have := d5n hc; subst this
  obtain ⟨_, g1, g2, g3, g4, h1, h2, h3⟩ := hok
  have hu := d5m hel
  obtain ⟨inf, z, hi, hz, hcz⟩ := d7V (w := w) (μ := μ) (st := st) h1 h2
  obtain ⟨inf', hi', hsz⟩ := d1u h2
  rw [hi] at hi'; cases hi'
  have hbytes : (Yk P el).bytes = inf.bytes := by simp [Yk, hi]
  have hz0 := i2P (len := c.toNat) hcz h3 (by rw [h1]; exact h2)
  rw [h1] at hz0
  have hlt : q < st.length := (List.getElem?_eq_some_iff.1 hq).1
  have hlc : l.toNat ≤ c.toNat := by omega
  have htake : ∀ i j (hi' : i < (List.replicate l.toNat (Yk P el).zero).length) (hj : j < ((List.replicate l.toNat (Yk P el).zero)[i]).length), ∃ v,
    ((Array.range (c.toNat * (Yk P el).size)).map (z.cells[· % z.cells.size]!))[i * (Yk P el).size + j]? = some v ∧ VR w μ st v (((List.replicate l.toNat (Yk P el).zero)[i])[j]) ∧ v.oneCell' = true := by
   intro i j hi' hj
   simp at hi'
   have := hz0.2.2 i j (by simp; omega) (by simpa using hj)
   simpa using this
  have h := d7u (x := .cells ((Array.range (c.toNat * (Yk P el).size)).map (z.cells[· % z.cells.size]!)) el) (ob := .arr 0 (Yk P el).size (Yk P el).bytes (List.replicate l.toNat (Yk P el).zero)) hs hq
   (fun s => i2F htake (by simp; exact Nat.mul_le_mul_right _ hlc) (fun e he => by rw [List.eq_of_mem_replicate he]; exact h1) (by simp; exact Nat.le_trans (Nat.mul_le_mul_right _ hlc) g3) s)
  refine ⟨.slice (some ⟨w.heap.size, 0, none⟩) l.toNat c.toNat, _, _, _, ?_, rfl, h.1, h.2, ?_⟩
  ·have t1 : top = 140737488355328 := rfl
   have wl : IntKind.i64.wrap l = l := IntWalk.i64_in l (by omega)
   have wc : IntKind.i64.wrap c = c := IntWalk.i64_in c (by omega)
   have b1 : ((inf.bytes : Int) * c) ≤ 281474976710656 := by
    rw [hbytes] at g3
    have : (inf.bytes : Int) * c = ((c.toNat * inf.bytes : Nat) : Int) := by
     rw [Nat.mul_comm, Int.natCast_mul]; congr 1; omega
    rw [this]; omega
   have n1 : ¬ c < 0 := by omega
   have n2 : ¬ l < 0 := by omega
   have n3 : ¬ c < l := by omega
   have n4 : ¬ (281474976710656 < (inf.bytes : Int) * c) := by omega
   by_cases hc0 : c.toNat * inf.size = 0
   ·have r0m : c.toNat = 0 := by
     rcases Nat.mul_eq_zero.1 hc0 with h | h
     ·exact h
     ·rw [← hsz] at h; exact absurd h h2
    have hl00 : l.toNat = 0 := by omega
    simp [Instr.makeSlice, run_underlying hu, asInt, d3w, typeInfo, hi, wl, wc, n1, n2, n3, n4, ZE hi, newRow, r0m, hl00, show Array.range 0 = (#[] : Array Nat) from rfl]
   ·simp [Instr.makeSlice, run_underlying hu, asInt, d3w, typeInfo, hi, wl, wc, n1, n2, n3, n4, ZE hi, newRow, zeroValue, hz, ← hsz]
    rw [hsz]
    simp [hc0]
  ·refine .ref _ _ q 0 0 l.toNat ⟨_, _, _, rfl⟩ (by simpa using hlt) (by simp [hlt]) (fun g' n b es e => Nat.zero_le _) (fun n b es e => ?_)
   rw [List.getElem?_set_self hlt] at e
   cases e
   refine ⟨_, _, rfl, hlc, by simp, fun hf => ?_, .inr ⟨w.heap.size, 0, by rw [ZS], by simp, _, el, heap_alloc_new _ _, by simp⟩⟩
   simp at hf; rw [hf]
 ·exact hok.elim
theorem i4Z {P : Program} {t : TypeId} {w : World} {μ : Mu} {st : St} {k : TI} {ag : Bool} {q : Nat} (hs : Sim w μ st) (hok : (d4O (Yk P t) k ag q).ok) (hq : st[q]? = some (some .resv)) :
  ∃ v w' μ' ob, (Instr.makeMap t none).run P w = .ok v w' ∧ (d4O (Yk P t) k ag q).new = some ob ∧ Sim w' μ' (st.set q (some ob)) ∧ Step w μ st w' μ' (st.set q (some ob)) ∧
   VR w' μ' (st.set q (some ob)) v (d4O (Yk P t) k ag q).d := by
 have hlt : q < st.length := (List.getElem?_eq_some_iff.1 hq).1
 unfold d4O at hok ⊢
 split at hok
 ·have h := d7u (x := .map #[] 0) (ob := .mps ag []) hs hq (fun s => ⟨⟨w.heap.size, #[], 0, rfl, heap_alloc_new _ _, rfl, fun i hi => absurd hi (Nat.not_lt_zero _)⟩⟩)
  refine ⟨.map (some w.heap.size), _, _, _, rfl, rfl, h.1, h.2, ?_⟩
  refine .mp _ q ⟨_, rfl⟩ (by simpa using hlt) (by simp [hlt]) (fun _ es e => ⟨_, ZS _ _ _, rfl⟩) (fun _ k es e => ⟨_, ZS _ _ _, rfl⟩)
 ·rename_i kk _ _
  have h := d7u (x := .map #[] 0) (ob := .mpi ag kk []) hs hq (fun s => ⟨⟨w.heap.size, #[], 0, rfl, heap_alloc_new _ _, rfl, fun i hi => absurd hi (Nat.not_lt_zero _)⟩⟩)
  refine ⟨.map (some w.heap.size), _, _, _, rfl, rfl, h.1, h.2, ?_⟩
  refine .mp _ q ⟨_, rfl⟩ (by simpa using hlt) (by simp [hlt]) (fun _ es e => ⟨_, ZS _ _ _, rfl⟩) (fun _ k es e => ⟨_, ZS _ _ _, rfl⟩)
 ·exact hok.elim
theorem p1S {k : IntKind} {n : Int} (h : InK k n) (hs : k.signed = true) : k.wrap n = n := by
 unfold InK IntKind.min IntKind.max at h
 rw [hs] at h
 simp only [if_true] at h
 unfold IntKind.wrap
 simp only [hs, Bool.true_and]
 cases k <;> simp [IntKind.signed] at hs <;> simp only [IntKind.bits] at h ⊢ <;> simp at h ⊢ <;> split <;> omega
theorem i5a {k : IntKind} {n : Int} (h : InK k n) : k.wrap n = n := by
 cases hs : k.signed with
 | true => exact p1S h hs
 | false =>
  unfold InK IntKind.min IntKind.max at h
  rw [hs] at h
  unfold IntKind.wrap
  rw [hs]
  simp only [Bool.false_and, Bool.false_eq_true, if_false] at h ⊢
  cases k <;> simp [IntKind.signed] at hs <;> simp only [IntKind.bits] at h ⊢ <;> simp at h ⊢ <;> omega
theorem d8n {w : World} {μ : Mu} {st : St} {k : IntKind} {n : Int} (hok : (arith k n).ok) : VR w μ st (.int k (k.wrap n)) (arith k n).d := by
 exact d3F _ _ _ _ _
theorem i7g (P : Program) (w : World) (op : BinOp) (t : TypeId) (x y : Operand) (k k' : IntKind) (a b : Int) : (eqGuard op t x y (.int k a) (.int k' b)).run P w = .ok () w := by
 unfold eqGuard; simp
theorem i7h (P : Program) (w : World) (op : BinOp) (t : TypeId) (x y : Operand) (a b : ByteArray) : (eqGuard op t x y (.string a) (.string b)).run P w = .ok () w := by
 unfold eqGuard; simp
theorem i1Z (P : Program) (w : World) (op : BinOp) (t : TypeId) (x y : Operand) (a b : Bool) : (eqGuard op t x y (.bool a) (.bool b)).run P w = .ok () w := by
 unfold eqGuard; simp
theorem d5X (s : Bs) : (bs s).toList = s := by simp [bs]
theorem d6l {α : Type} [BEq α] [LawfulBEq α] [DecidableEq α] (a b : α) : (a == b) = decide (a = b) := by
 by_cases h : a = b
 ·subst h; simp
 ·simp [h]
theorem i9W {P : Program} {t : TypeId} {w : World} {μ : Mu} {st : St} {vx vy : Value} {x y : D} {op : BinOp} (hx : VR w μ st vx x) (hy : VR w μ st vy y)
  (hok : (i1m op x y).ok) : ∃ v, (binOp op t vx vy).run P w = .ok v w ∧ VR w μ st v (i1m op x y).d ∧ ((∃ k a k' b, vx = .int k a ∧ vy = .int k' b) ∨ ∃ a b, vx = .string a ∧ vy = .string b) := by
 unfold i1m at hok
 split at hok
 ·rename_i k a k' b
  have := d5n hx; subst this
  have := d5n hy; subst this
  have both : (∃ k1 a1 k2 b1, Value.int k a = .int k1 a1 ∧ Value.int k' b = .int k2 b1) ∨ ∃ a1 b1, Value.int k a = .string a1 ∧ Value.int k' b = .string b1 := .inl ⟨_, _, _, _, rfl, rfl⟩
  have bo : ∀ r, (∃ v, (binOp op t (.int k a) (.int k' b)).run P w = .ok v w ∧ VR w μ st v r) → ∃ v, (binOp op t (.int k a) (.int k' b)).run P w = .ok v w ∧ VR w μ st v r ∧
   ((∃ k1 a1 k2 b1, Value.int k a = .int k1 a1 ∧ Value.int k' b = .int k2 b1) ∨ ∃ a1 b1, Value.int k a = .string a1 ∧ Value.int k' b = .string b1) := fun r ⟨v, h1, h2⟩ => ⟨v, h1, h2, both⟩
  apply bo
  split at hok
  ·
   have hb : ¬ b < 0 := by have h : 0 ≤ b := hok; omega
   refine ⟨.int k (k.wrap (a * 2 ^ (min b.toNat k.bits))), ?_, d3F _ _ _ _ _⟩
   simp [binOp, Op.shift, hb]
  ·have hb : ¬ b < 0 := by have h : 0 ≤ b := hok; omega
   refine ⟨.int k (a.fdiv (2 ^ (min b.toNat k.bits))), ?_, d3F _ _ _ _ _⟩
   simp [binOp, Op.shift, hb]
  ·rename_i h1 h2
   split at hok
   ·rename_i hkk
    subst hkk
    split at hok
    ·exact ⟨.int k (k.wrap (a + b)), by simp [binOp, Op.intArith], by simp only [i1m, if_true]; exact d8n hok⟩
    ·exact ⟨.int k (k.wrap (a - b)), by simp [binOp, Op.intArith], by simp only [i1m, if_true]; exact d8n hok⟩
    ·exact ⟨.int k (k.wrap (a * b)), by simp [binOp, Op.intArith], by simp only [i1m, if_true]; exact d8n hok⟩
    ·obtain ⟨h0, h3⟩ := hok
     refine ⟨.int k (a.tdiv b), ?_, by simp only [i1m, if_true]; exact d3F _ _ _ _ _⟩
     simp [binOp, Op.intDiv, h0, i5a h3]
    ·have h0 : b ≠ 0 := hok
     refine ⟨.int k (a.tmod b), by simp [binOp, Op.intDiv, h0], by simp only [i1m, if_true]; exact d3F _ _ _ _ _⟩
    ·exact ⟨.bool (decide (a = b)), by simp [binOp, Op.intCmp, d6l], by simp only [i1m, if_true]; exact d3m _ _ _ _⟩
    ·exact ⟨.bool (!decide (a = b)), by simp [binOp, Op.intCmp, bne, d6l], by simp only [i1m, if_true]; exact d3m _ _ _ _⟩
    ·exact ⟨.bool (decide (a < b)), by simp [binOp, Op.intCmp], by simp only [i1m, if_true]; exact d3m _ _ _ _⟩
    ·exact ⟨.bool (decide (a ≤ b)), by simp [binOp, Op.intCmp], by simp only [i1m, if_true]; exact d3m _ _ _ _⟩
    ·exact ⟨.bool (decide (b < a)), by simp [binOp, Op.intCmp], by simp only [i1m, if_true]; exact d3m _ _ _ _⟩
    ·exact ⟨.bool (decide (b ≤ a)), by simp [binOp, Op.intCmp], by simp only [i1m, if_true]; exact d3m _ _ _ _⟩
    ·cases op <;> first | contradiction | skip
     ·exact ⟨.int k (d1t .and k a b), by simp only [binOp, ne_eq, not_true_eq_false, if_false]; rfl, by simp only [i1m, if_true]; exact d3F _ _ _ _ _⟩
     ·exact ⟨.int k (d1t .or k a b), by simp only [binOp, ne_eq, not_true_eq_false, if_false]; rfl, by simp only [i1m, if_true]; exact d3F _ _ _ _ _⟩
     ·exact ⟨.int k (d1t .xor k a b), by simp only [binOp, ne_eq, not_true_eq_false, if_false]; rfl, by simp only [i1m, if_true]; exact d3F _ _ _ _ _⟩
     ·exact ⟨.int k (d1t .andNot k a b), by simp only [binOp, ne_eq, not_true_eq_false, if_false]; rfl, by simp only [i1m, if_true]; exact d3F _ _ _ _ _⟩
   ·exact hok.elim
 ·rename_i a b
  have := d6t hx; subst this
  have := d6t hy; subst this
  have both : (∃ k1 a1 k2 b1, Value.string (bs a) = .int k1 a1 ∧ Value.string (bs b) = .int k2 b1) ∨ ∃ a1 b1, Value.string (bs a) = .string a1 ∧ Value.string (bs b) = .string b1 := .inr ⟨_, _, rfl, rfl⟩
  split at hok
  ·refine ⟨.string (bs (a ++ b)), ?_, i8h _ _ _ _, both⟩
   have hle : a.length + b.length ≤ 9223372036854775807 := hok
   have : ¬ (((bs a).size + (bs b).size : Nat) : Int) > IntKind.i64.max := by rw [d4V, d4V]; simp [IntKind.max, IntKind.signed, IntKind.bits]; omega
   have e : bs a ++ bs b = bs (a ++ b) := by apply ByteArray.ext; simp [bs]
   simp only [binOp, Op.stringOp]
   rw [if_neg this, e]; rfl
  ·exact ⟨.bool (decide (a = b)), by simp [binOp, Op.stringOp, d5X, d6l], d3m _ _ _ _, both⟩
  ·exact ⟨.bool (!decide (a = b)), by simp [binOp, Op.stringOp, d5X, d6l], d3m _ _ _ _, both⟩
  ·exact ⟨.bool (Op.bytesLess a b), by simp [binOp, Op.stringOp, d5X], d3m _ _ _ _, both⟩
  ·exact ⟨.bool (!(Op.bytesLess a b || decide (a = b))), by simp [binOp, Op.stringOp, d5X, d6l], d3m _ _ _ _, both⟩
  ·exact ⟨.bool (Op.bytesLess a b || decide (a = b)), by simp [binOp, Op.stringOp, d5X, d6l], d3m _ _ _ _, both⟩
  ·exact ⟨.bool (!Op.bytesLess a b), by simp [binOp, Op.stringOp, d5X], d3m _ _ _ _, both⟩
  ·exact hok.elim
 ·exact hok.elim
end Go.Am
namespace Go.Am
open Go Go.MapKept
section maps
variable {K : Type} [DecidableEq K] {key : K → Value} {d : TypeDesc}
theorem i1o (i7i : ∀ a b : K, Instr.sameNow d (key a) (key b) = some (decide (a = b))) (k : K) : ∀ (l : List MapEntry) (es : List (K × List D)) (i : Nat), l.length = es.length →
  (∀ j (hj : j < es.length), ∃ e, l[j]? = some e ∧ e.key = key (es[j]).1) →
  (assoc k es = none ∧ Instr.findNow d (key k) l i = some none ∧ ∀ v, ZT k v es = es ++ [(k, v)]) ∨
   ∃ j cs e, assoc k es = some cs ∧ Instr.findNow d (key k) l i = some (some (i + j, e.val)) ∧ l[j]? = some e ∧ es[j]? = some (k, cs) ∧ ∀ v, ZT k v es = es.set j (k, v)
 | [], [], _, _, _ => .inl ⟨rfl, rfl, fun _ => rfl⟩
 | e :: l, (a, cs) :: es, i, hl, h => by
  obtain ⟨e', he, hk⟩ := h 0 (by simp)
  simp at he hk
  subst he
  by_cases hka : k = a
  ·subst hka
   exact .inr ⟨0, cs, e, by simp [assoc], by simp [Instr.findNow, hk, i7i], rfl, rfl, fun v => by simp [ZT]⟩
  ·have hn : Instr.sameNow d (key k) e.key = some false := by rw [hk, i7i]; simp [hka]
   rcases i1o i7i k l es (i + 1) (by simpa using hl) (fun j hj => by
    obtain ⟨e2, h1, h2⟩ := h (j + 1) (by simp; omega)
    exact ⟨e2, by simpa using h1, by simpa using h2⟩) with ⟨h1, h2, h3⟩ | ⟨j, cs', e2, h1, h2, h3, h4, h5⟩
   ·exact .inl ⟨by simp [assoc, hka, h1], by simp [Instr.findNow, hn, h2], fun v => by simp [ZT, hka, h3]⟩
   ·exact .inr ⟨j + 1, cs', e2, by simp [assoc, hka, h1], by simp [Instr.findNow, hn, h2]; omega, by simpa using h3, by simpa using h4, fun v => by simp [ZT, hka, h5]⟩
 | [], _ :: _, _, h, _ => by simp at h
 | _ :: _, [], _, h, _ => by simp at h
end maps
theorem i8i (a b : Bs) : Instr.sameNow .string (.string (bs a)) (.string (bs b)) = some (decide (a = b)) := by
 simp only [Instr.sameNow]
 congr 1
 by_cases h : a = b
 ·subst h; simp [bytes_beq]
 ·have hn : bs a ≠ bs b := fun e => h (by have := congrArg (fun x => x.data.toList) e; simpa [bs] using this)
  have : ¬ ((bs a == bs b) = true) := fun e => hn ((bytes_beq _ _).1 e)
  simp [h, this]
theorem i8j (k : IntKind) (a b : Int) : Instr.sameNow (.int k) (.int k a) (.int k b) = some (decide (a = b)) := by
 simp [Instr.sameNow, d6l]
theorem p1T {P : Program} {t : TypeId} {w : World} {μ : Mu} {st : St} (h : (Yk P t).zv.isSome = true) : ∃ z, (zeroValue t).run P w = .ok z w ∧ VR w μ st z ((Yk P t).zv.getD .any) := by
 cases hi : P.info? t with
 | none => simp [Yk, hi] at h
 | some inf =>
  cases hz : inf.zero with
  | none => simp [Yk, hi, hz] at h
  | some z => exact ⟨z, by simp [zeroValue, typeInfo, hi, hz], by simp [Yk, hi, hz]; exact i2G _ _ _ _⟩
theorem p1L.val {ag : Bool} {w : World} {μ : Mu} {st : St} {v : Value} {cs : List D} (h : p1L ag w μ st v cs) : VR w μ st v (mkv ag cs) := by
 cases ag with
 | true => exact h
 | false => obtain ⟨d, rfl, h⟩ := h; exact h
theorem i2S {P : Program} {t kt et : TypeId} {w : World} {μ : Mu} {st : St} {K : Type} [DecidableEq K] {key : K → Value} {d : TypeDesc} {es : List (K × List D)} {m : Option (Nat × Nat)} {k : K} {ok : Bool} {ag : Bool}
  (hu : P.underlying t = some (.map kt et)) (hkt : P.underlying kt = some d) (hkey : ∀ k, IsKey d (key k)) (i7i : ∀ a b : K, Instr.sameNow d (key a) (key b) = some (decide (a = b)))
  (hm : i0v key ag w μ st m es) (hag : ag = (Yk P et).k.agg) (hz : (Yk P et).zv.isSome = true) :
  ∃ blk v, m = some (blk, 0) ∧ (Instr.lookup t (.map (some blk)) (key k) ok).run P w = .ok v w ∧ VR w μ st v (i1l (Yk P et) ok (assoc k es)) := by
 obtain ⟨blk, ents, clock, em, hh, hsz, hc⟩ := hm.loc
 obtain ⟨z, hz1, hz2⟩ := p1T (w := w) (μ := μ) (st := st) hz
 have hck := fun e => run_checkKey (P := P) (w := w) hkt (hkey k) e 9999
 have fin : ∀ (u : Value) (b : Bool) (r : Option (List D)), VR w μ st u (i1k (Yk P et) r) → b = r.isSome → VR w μ st (if ok then .tuple #[u, .bool b] else u) (i1l (Yk P et) ok r) := by
  intro u b r h1 h2
  subst h2
  cases ok with
  | false => exact h1
  | true =>
   refine .tup _ _ (fun j hj _ => by simpa [i1l] using hj) (fun j hj => ?_)
   match j, hj with
   | 0, _ => exact h1
   | 1, _ => exact d3m _ _ _ _
   | j + 2, hj => simp at hj; omega
 refine ⟨blk, ?_⟩
 rcases i1o i7i k ents.toList es 0 (by simpa using hsz) (fun j hj => by
  obtain ⟨e, h1, h2, _⟩ := hc j hj
  exact ⟨e, by simpa using h1, h2⟩) with ⟨h1, h2, _⟩ | ⟨j, cs, e, h1, h2, h3, h4, _⟩
 ·have hf := run_findKey (P := P) (w := w) hkt h2
  refine ⟨_, em, ?_, fin z false none hz2 rfl |> (h1 ▸ ·)⟩
  simp [Instr.lookup, run_underlying hu, MapKept.run_getObj_map hh, hck, hf, hz1]
 ·have hf := run_findKey (P := P) (w := w) hkt h2
  have hj : j < es.length := by
   rcases Nat.lt_or_ge j es.length with h | h
   ·exact h
   ·rw [List.getElem?_eq_none h] at h4; cases h4
  obtain ⟨e', a1, a2, a3⟩ := hc j hj
  have : e' = e := by
   have : ents.toList[j]? = some e' := by simpa using a1
   rw [this] at h3; exact Option.some.inj h3
  subst this
  have hes : es[j] = (k, cs) := by rw [List.getElem?_eq_getElem hj] at h4; exact Option.some.inj h4
  rw [hes, hag] at a3
  refine ⟨_, em, ?_, fin e'.val true (some cs) a3.val rfl |> (h1 ▸ ·)⟩
  simp [Instr.lookup, run_underlying hu, MapKept.run_getObj_map hh, hck, hf]
theorem i9a {w : World} {μ : Mu} {st : St} {v : Value} {o : Nat} (h : VR w μ st v (.mp o)) :
  (∀ ag es, st[o]? = some (some (.mps ag es)) → ∃ blk, μ o = some (blk, 0) ∧ v = .map (some blk)) ∧ (∀ ag k es, st[o]? = some (some (.mpi ag k es)) → ∃ blk, μ o = some (blk, 0) ∧ v = .map (some blk)) := by
 cases h with
 | tr h => cases h
 | mp _ _ _ _ _ h1 h2 => exact ⟨h1, h2⟩
theorem i5U {P : Program} {t kt et : TypeId} {w : World} {μ : Mu} {st : St} {vm vk : Value} {m k : D} {ok : Bool} (hs : Sim w μ st) (hm : VR w μ st vm m) (hk : VR w μ st vk k)
  (hu : (Yk P t).k = .map kt et) (hok : (d6M (Yk P t) (Yk P kt) (Yk P et) (look st) ok k m).ok) :
  ∃ v, (Instr.lookup t vm vk ok).run P w = .ok v w ∧ VR w μ st v (d6M (Yk P t) (Yk P kt) (Yk P et) (look st) ok k m).d := by
 have hu' := i9U hu
 cases m with
 | mp o =>
  simp only [d6M] at *
  split at hok
  ·rename_i ag es k hl
   obtain ⟨_, hks, hag, hz⟩ := hok
   have ho := d0A hl
   have := d6t hk; subst this
   obtain ⟨blk, em, ev⟩ := (i9a hm).1 ag es ho
   subst ev
   obtain ⟨i2u, v, em', h1, h2⟩ := i2S (P := P) (k := k) (ok := ok) (key := fun k => .string (bs k)) hu' (i2H hks) (fun _ => trivial) i8i (hs.obj o _ ho : i0v _ ag w μ st (μ o) es) hag hz
   rw [em] at em'; cases em'
   exact ⟨v, h1, h2⟩
  ·rename_i ag kk es kk' k hl
   obtain ⟨_, hks, rfl, hag, hz⟩ := hok
   have ho := d0A hl
   have := d5n hk; subst this
   obtain ⟨blk, em, ev⟩ := (i9a hm).2 ag _ es ho
   subst ev
   obtain ⟨i2u, v, em', h1, h2⟩ := i2S (P := P) (k := k) (ok := ok) (key := fun n => .int kk' n) hu' (i8Z hks) (fun _ => rfl) (i8j kk') (hs.obj o _ ho : i0v _ ag w μ st (μ o) es) hag hz
   rw [em] at em'; cases em'
   exact ⟨v, h1, h2⟩
  ·exact hok.elim
 | _ => exact hok.elim
theorem p3b {w : World} {μ : Mu} {st : St} {v : Value} {i : TI} {x : D} (h : VR w μ st v x) (hok : d6k i x) : p1L i.k.agg w μ st v (cellsOf i x) := by
 unfold d6k at hok
 unfold cellsOf p1L
 split at hok
 ·rename_i hag
  cases x with
  | agg cs => simp only [hag, if_true]; exact h
  | _ => exact hok.elim
 ·rename_i hag
  simp only [hag]
  exact ⟨x, rfl, h⟩
theorem i5V {d : TypeDesc} {k : Value} (hk : IsKey d k) : Instr.sameBits 10000 k k = true := by
 cases d <;> cases k <;> simp_all [IsKey, Instr.sameBits, bytes_beq]
theorem i2T {P : Program} {t kt et : TypeId} {w : World} {μ : Mu} {st : St} {K : Type} [DecidableEq K] {key : K → Value} {d : TypeDesc} {es : List (K × List D)} {o : Nat} {k : K} {ag : Bool} {mk : List (K × List D) → Ob}
  (hs : Sim w μ st) (ho : st[o]? = some (some (mk es)))
  (hu : P.underlying t = some (.map kt et)) (hkt : P.underlying kt = some d) (hkey : ∀ k, IsKey d (key k)) (i7i : ∀ a b : K, Instr.sameNow d (key a) (key b) = some (decide (a = b)))
  (hmk : ∀ w μ st es, ObR w μ st (μ o) (mk es) ↔ i0v key ag w μ st (μ o) es) (hst : ∀ w w' m es es', d4J w w' m m (mk es) (mk es'))
  {v : Value} {cs : List D} (hv : p1L ag w μ st v cs) :
  ∃ blk w', μ o = some (blk, 0) ∧ (Instr.mapUpdate t (.map (some blk)) (key k) v).run P w = .ok () w' ∧ Sim w' μ (st.set o (some (mk (ZT k cs es)))) ∧ Step w μ st w' μ (st.set o (some (mk (ZT k cs es)))) := by
 obtain ⟨blk, ents, clock, em, hh, hsz, hc⟩ := ((hmk w μ st es).1 (hs.obj o _ ho)).loc
 have hck := fun e => run_checkKey (P := P) (w := w) hkt (hkey k) e 9999
 have hlt : blk < w.heap.size := (Array.getElem?_eq_some_iff.1 hh).1
 have main : ∀ i7j clock', i7j.size = (ZT k cs es).length → (∀ i (hi : i < (ZT k cs es).length), ∃ e, i7j[i]? = some e ∧ e.key = key ((ZT k cs es)[i]).1 ∧ p1L ag w μ st e.val ((ZT k cs es)[i]).2) →
   Sim { w with heap := w.heap.setIfInBounds blk (.map i7j clock') } μ (st.set o (some (mk (ZT k cs es)))) ∧ Step w μ st { w with heap := w.heap.setIfInBounds blk (.map i7j clock') } μ (st.set o (some (mk (ZT k cs es)))) := by
  intro i7j clock' g1 g2
  obtain ⟨hs1, hs2⟩ := heap_set (w := w) (o' := .map i7j clock') hh
  refine d7G hs ho (fun _ _ => rfl) (fun b hb hne => hs2 b (fun e => hne 0 (e ▸ em))) (by simp) rfl rfl rfl (fun b base e => .inl ⟨base, e⟩) (hst _ _ _ _ _) (fun s => ?_)
  rw [hmk]
  exact ⟨⟨blk, i7j, clock', em, hs1, g1, fun i hi => let ⟨e, h1, h2, h3⟩ := g2 i hi; ⟨e, h1, h2, h3.step s⟩⟩⟩
 rcases i1o i7i k ents.toList es 0 (by simpa using hsz) (fun j hj => by
  obtain ⟨e, h1, h2, _⟩ := hc j hj
  exact ⟨e, by simpa using h1, h2⟩) with ⟨h1, h2, h3⟩ | ⟨j, cs0, e, h1, h2, h3, h4, h5⟩
 ·have hf := run_findKey (P := P) (w := w) hkt h2
  obtain ⟨m1, m2⟩ := main (ents.push { key := key k, val := v, born := clock }) (clock + 1) (by rw [h3]; simp [hsz]) (fun i hi => by
   simp only [h3] at hi ⊢
   simp at hi
   by_cases hil : i < es.length
   ·obtain ⟨e, a1, a2, a3⟩ := hc i hil
    have hi2 : i < ents.size := by omega
    refine ⟨e, by rw [Array.getElem?_push, if_neg (by omega)]; exact a1, ?_, ?_⟩
    ·simp only [List.getElem_append_left hil]; exact a2
    ·simp only [List.getElem_append_left hil]; exact a3
   ·have : i = es.length := by omega
    subst this
    refine ⟨{ key := key k, val := v, born := clock }, by rw [Array.getElem?_push, if_pos (by omega)], by simp, by simpa using hv⟩)
  refine ⟨blk, _, em, ?_, m1, m2⟩
  simp [Instr.mapUpdate, run_underlying hu, MapKept.run_getObj_map hh, hck, hf, run_setObj_map _ hh]
 ·have hf := run_findKey (P := P) (w := w) hkt h2
  have hj : j < es.length := by
   rcases Nat.lt_or_ge j es.length with h | h
   ·exact h
   ·rw [List.getElem?_eq_none h] at h4; cases h4
  have hjs : j < ents.size := by omega
  have hej : ents[j]? = some e := by simpa using h3
  have hkj : e.key = key k := by
   obtain ⟨e', a1, a2, a3⟩ := hc j hj
   rw [hej] at a1; cases a1
   have hes : es[j] = (k, cs0) := by rw [List.getElem?_eq_getElem hj] at h4; exact Option.some.inj h4
   rw [hes] at a2; exact a2
  obtain ⟨m1, m2⟩ := main (ents.modify j fun e => { e with key := key k, val := v }) clock (by rw [h5]; simp [hsz]) (fun i hi => by
   simp only [h5] at hi ⊢
   simp at hi
   obtain ⟨e0, a1, a2, a3⟩ := hc i hi
   by_cases hij : i = j
   ·subst hij
    refine ⟨{ e0 with key := key k, val := v }, by rw [Array.getElem?_modify]; simp [a1], by simp, by simpa using hv⟩
   ·refine ⟨e0, by rw [Array.getElem?_modify]; simp [Ne.symm hij, a1], ?_, ?_⟩
    ·simp only [List.getElem_set, Ne.symm hij, if_false]; exact a2
    ·simp only [List.getElem_set, Ne.symm hij, if_false]; exact a3)
  refine ⟨blk, _, em, ?_, m1, m2⟩
  have hsb := i5V (hkey k)
  simp [Instr.mapUpdate, run_underlying hu, MapKept.run_getObj_map hh, hck, hf, hej, hkj, Instr.keyThatStays, hsb, run_setObj_map _ hh]
theorem i2U {P : Program} {t kt et : TypeId} {w : World} {μ : Mu} {st : St} {vm vk vx : Value} {m k x : D} {r : LR} (hs : Sim w μ st) (hm : VR w μ st vm m) (hk : VR w μ st vk k) (hx : VR w μ st vx x)
  (hu : (Yk P t).k = .map kt et) (hr : r = d2M (Yk P t) (Yk P kt) (Yk P et) (look st) k x m) (hok : r.ok) :
  ∃ w' o ob, (Instr.mapUpdate t vm vk vx).run P w = .ok () w' ∧ r.up = some (o, ob) ∧ Sim w' μ (st.set o (some ob)) ∧ Step w μ st w' μ (st.set o (some ob)) := by
 subst hr
 have hu' := i9U hu
 cases m with
 | mp o =>
  simp only [d2M] at *
  split at hok
  ·rename_i ag es k hl
   obtain ⟨_, hks, hag, hc⟩ := hok
   have ho := d0A hl
   have := d6t hk; subst this
   obtain ⟨blk, em, ev⟩ := (i9a hm).1 ag es ho
   subst ev
   obtain ⟨i2u, w', em', h1, h2, h3⟩ := i2T (P := P) (k := k) (ag := ag) (key := fun k => .string (bs k)) (mk := fun es => .mps ag es) hs ho hu' (i2H hks) (fun _ => trivial) i8i (fun _ _ _ _ => Iff.rfl) (fun _ _ _ _ _ => ⟨rfl, rfl⟩) (hag ▸ p3b hx hc)
   rw [em] at em'; cases em'
   exact ⟨w', o, _, h1, rfl, h2, h3⟩
  ·rename_i ag kk es kk' k hl
   obtain ⟨_, hks, rfl, hag, hc⟩ := hok
   have ho := d0A hl
   have := d5n hk; subst this
   obtain ⟨blk, em, ev⟩ := (i9a hm).2 ag _ es ho
   subst ev
   obtain ⟨i2u, w', em', h1, h2, h3⟩ := i2T (P := P) (k := k) (ag := ag) (key := fun n => .int kk' n) (mk := fun es => .mpi ag kk' es) hs ho hu' (i8Z hks) (fun _ => rfl) (i8j kk') (fun _ _ _ _ => Iff.rfl) (fun _ _ _ _ _ => ⟨rfl, rfl, rfl⟩) (hag ▸ p3b hx hc)
   rw [em] at em'; cases em'
   exact ⟨w', o, _, h1, rfl, h2, h3⟩
  ·exact hok.elim
 | _ => exact hok.elim
end Go.Am

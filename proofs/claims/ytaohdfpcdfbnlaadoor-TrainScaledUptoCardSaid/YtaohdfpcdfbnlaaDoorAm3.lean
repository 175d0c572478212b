/-
  AM, part 28: a region whose order is drawn: the evaluator's form.
-/
import Derived.Scope
import Derived.Test.YtaohdfpcdfbnlaaDoorAm2
set_option linter.unusedVariables false
set_option linter.unusedSimpArgs false
namespace Go.Am
open Go

abbrev Log := List (List Nat × List Nat)
def lgVs (rd up : List Nat) : Log → Prop
  | [] => True
  | (rd', up') :: l => (∀ o ∈ up, o ∉ rd') ∧ (∀ o ∈ up', o ∉ rd) ∧ lgVs rd up l
def lgOk : Log → Prop
  | [] => True
  | (rd, up) :: l => lgVs rd up l ∧ lgOk l

/-- one more row of the log, where the operation is followed -/
def upL (r : LR) : List Nat := match r.up with | some (o, _) => [o] | none => []
def lgAdd (tr : Bool) (lg : Log) (r : LR) (ups : List (Nat × Ob)) : Log := bif tr then lg ++ [(r.rd, upL r ++ ups.map (·.1))] else lg

def EvDR (N q : Nat) (tr : Bool) (dst : Option Nat) (lg : Log) (fr : Fr) (st : St) (k : Log → Fr → St → Prop) (r : LR) : Prop :=
  r.ok ∧ dlt N dst ∧ k (lgAdd tr lg r []) (fr.putO dst r.d) (r.app q st)
def DCall (P : Program) (gl : Gl) (b : Nat) (tr : Bool) (dst : Option Nat) (lg : Log) (fr : Fr) (st : St) (k : Log → Fr → St → Prop) (g : FuncId) (args : List D) : Prop :=
  ∃ r rd ups, LocPure P gl g args rd st r ups ∧ (∀ p ∈ ups, p.1 ∈ rd) ∧ (∀ o ∈ rd, o < b ∧ ∃ ob, look st o = some ob ∧ ob ≠ .resv) ∧ (tr = false → rd = []) ∧ k (lgAdd tr lg ⟨r, True, rd, none, none⟩ ups) (fr.putO dst r) (puts st ups)
def DGCall (P : Program) (gl : Gl) (b : Nat) (G tr : Bool) (dst : Option Nat) (lg : Log) (fr : Fr) (st : St) (k : Log → Fr → St → Prop) (g : FuncId) (args : List D) : Prop :=
  ∃ r rd ups, (G = true → LocPure P gl g args rd st r ups) ∧ (∀ p ∈ ups, p.1 ∈ rd) ∧ (∀ o ∈ rd, o < b ∧ ∃ ob, look st o = some ob ∧ ob ≠ .resv) ∧ (tr = false → rd = []) ∧ (G = false → puts st ups = st) ∧ k (lgAdd tr lg ⟨r, True, rd, none, none⟩ ups) (fr.putO dst (.cond G r)) (puts st ups)
def EvDC (P : Program) (gl : Gl) (N b : Nat) (tr : Bool) (dst : Option Nat) (lg : Log) (fr : Fr) (st : St) (k : Log → Fr → St → Prop) (ok : Prop) (f : D) (args : List D) : Prop :=
  match f with
  | .fn g first cap => dlt N dst ∧ ok ∧ DCall P gl b tr dst lg fr st k g (first ++ args ++ cap)
  | _ => False
def EvDGR (N q : Nat) (G : Bool) (tr : Bool) (dst : Option Nat) (lg : Log) (fr : Fr) (st : St) (k : Log → Fr → St → Prop) (r : LR) : Prop :=
  gImp G r.ok ∧ dlt N dst ∧ k (lgAdd tr lg r []) (fr.putO dst (.cond G r.d)) (bif G then r.app q st else st)
def EvDGC (P : Program) (gl : Gl) (N b : Nat) (G : Bool) (tr : Bool) (dst : Option Nat) (lg : Log) (fr : Fr) (st : St) (k : Log → Fr → St → Prop) (ok : Prop) (f : D) (args : List D) : Prop :=
  match f with
  | .fn g first cap => dlt N dst ∧ ok ∧ DGCall P gl b G tr dst lg fr st k g (first ++ args ++ cap)
  | _ => False

/-- an operation without a guard, by its kind; q: the id that is kept for it -/
def EvD0 (P : Program) (gl : Gl) (N b q : Nat) (tr : Bool) (k k1 : Log → Fr → St → Prop) (dst : Option Nat) (op : Op) (lg : Log) (fr : Fr) (st : St) : Nat → Prop
  | 0 => EvDR N q tr dst lg fr st k (aop P gl true op fr (look st) q)
  | 1 => EvDR N q tr dst lg fr st k1 (aop P gl true op fr (look st) q)
  | _ => match op with
    | .call ⟨.value f, args, _⟩ => EvDC P gl N b tr dst lg fr st k (eok gl true fr f ∧ (∀ x ∈ args.toList, eok gl true fr x)) (ev1 gl fr f) (args.toList.map (ev1 gl fr))
    | _ => False
def EvDG (P : Program) (gl : Gl) (N b q : Nat) (tr : Bool) (k : Log → Fr → St → Prop) (dst : Option Nat) (op : Op) (lg : Log) (fr : Fr) (st : St) : Nat → Option Bool → Prop
  | 0, some G => EvDGR N q G tr dst lg fr st k (aop P gl G op fr (look st) q)
  | 2, some G => match op with
    | .call ⟨.value f, args, _⟩ => EvDGC P gl N b G tr dst lg fr st k (eok gl G fr f ∧ (∀ x ∈ args.toList, eok gl G fr x)) (ev1 gl fr f) (args.toList.map (ev1 gl fr))
    | _ => False
  | _, _ => False

/-- i: the index; b + k: the next id -/
def EvD (P : Program) (gl : Gl) (N : Nat) (ops : Array Oper) (b : Nat) (trk : List Nat) (K : Fr → St → Prop) : List Oper → Nat → Nat → Log → Fr → St → Prop
  | [], _, _, lg, fr, st => lgOk lg ∧ K fr st
  | ⟨dst, op, _, _, _, none⟩ :: l, i, k, lg, fr, st => EvD0 P gl N b (b + k) (trk.contains i) (EvD P gl N ops b trk K l (i + 1) k) (EvD P gl N ops b trk K l (i + 1) (k + 1)) dst op lg fr st (opk op)
  | ⟨dst, op, _, _, _, some (j, want)⟩ :: l, i, k, lg, fr, st => EvDG P gl N b (b + k) (trk.contains i) (EvD P gl N ops b trk K l (i + 1) k) dst op lg fr st (opk op) (gget fr want (gslot ops j))

/-! ### what is asked of the order -/

def rds : Op → Bool
  | .load _ _ | .store _ _ _ | .indexAddr _ _ _ | .slice _ _ _ _ _ | .lookup _ _ _ _ | .mapUpdate _ _ _ _ | .next _ _ | .call { callee := .builtin .len, .. } | .call { callee := .builtin .append, .. } => true
  | _ => false
def wrs : Op → Bool
  | .store _ _ _ | .mapUpdate _ _ _ _ | .next _ _ | .call { callee := .builtin .append, .. } => true
  | _ => false

/-- a call that is followed may read and change -/
def callT (trk : List Nat) (i : Nat) (o : Op) : Bool := (callOf o).isSome && trk.contains i
def maskOf (tbl : List Nat) (o : Oper) : Nat := o.after.toList.foldl (fun s e => bif Region.binds .any e then s ||| 2 ^ e.on ||| tbl.getD e.on 0 else s) 0
def masks : List Oper → List Nat → List Nat
  | [], tbl => tbl
  | o :: l, tbl => masks l (tbl ++ [maskOf tbl o])

def pairOk (ops : Array Oper) (trk : List Nat) (m i j : Nat) : Bool :=
  Nat.testBit m i || (match ops[i]?, ops[j]? with
    | some x, some y => Oper.apart ops x y && ((!((wrs x.op || callT trk i x.op) && (rds y.op || callT trk j y.op)) && !((wrs y.op || callT trk j y.op) && (rds x.op || callT trk i x.op))) || (trk.contains i && trk.contains j))
    | _, _ => false)

def orderly (ops : Array Oper) (trk : List Nat) : Bool :=
  let tbl := masks ops.toList []
  (List.range ops.size).all fun j =>
    (match ops[j]? with | some o => o.after.toList.all fun e => !Region.binds .any e || Nat.blt e.on j | none => true) &&
    (List.range j).all fun i => pairOk ops trk (tbl.getD j 0) i j

theorem maskOf_bit {tbl : List Nat} {o : Oper} {j : Nat} (h : Nat.testBit (maskOf tbl o) j = true) : ∃ e ∈ o.after, Region.binds .any e = true ∧ (e.on = j ∨ Nat.testBit (tbl.getD e.on 0) j = true) := by
  have key : ∀ (l : List Edge) (s : Nat), Nat.testBit (l.foldl (fun s e => bif Region.binds .any e then s ||| 2 ^ e.on ||| tbl.getD e.on 0 else s) s) j = true →
      Nat.testBit s j = true ∨ ∃ e ∈ l, Region.binds .any e = true ∧ (e.on = j ∨ Nat.testBit (tbl.getD e.on 0) j = true) := by
    intro l
    induction l with
    | nil => intro s h; exact .inl h
    | cons e l ih =>
      intro s h
      simp only [List.foldl_cons] at h
      rcases ih _ h with h | ⟨e', h1, h2⟩
      · cases hb : Region.binds .any e with
        | false => rw [hb] at h; exact .inl h
        | true =>
          rw [hb] at h
          simp only [cond_true, Nat.testBit_or, Bool.or_eq_true, Nat.testBit_two_pow, decide_eq_true_eq] at h
          rcases h with (h | h) | h
          · exact .inl h
          · exact .inr ⟨e, by simp, hb, .inl h⟩
          · exact .inr ⟨e, by simp, hb, .inr h⟩
      · exact .inr ⟨e', by simp [h1], h2⟩
  rcases key _ 0 h with h | ⟨e, h1, h2⟩
  · simp at h
  · exact ⟨e, by simpa using h1, h2⟩

theorem masks_ord {ops : Array Oper} : ∀ (l : List Oper) (tbl : List Nat), ops.toList.drop tbl.length = l →
    (∀ j, j < tbl.length → ∀ i, Nat.testBit (tbl.getD j 0) i = true → Ord ops i j) → ∀ j i, Nat.testBit ((masks l tbl).getD j 0) i = true → Ord ops i j
  | [], tbl, _, h, j, i, hb => by
    rcases Nat.lt_or_ge j tbl.length with hj | hj
    · exact h j hj i hb
    · simp only [masks] at hb
      rw [List.getD_eq_getElem?_getD, List.getElem?_eq_none hj] at hb
      simp at hb
  | o :: l, tbl, hl, h, j, i, hb => by
    simp only [masks] at hb
    have ho : ops[tbl.length]? = some o := by
      have : (ops.toList.drop tbl.length)[0]? = some o := by rw [hl]; rfl
      simpa [List.getElem?_drop] using this
    refine masks_ord l (tbl ++ [maskOf tbl o]) ?_ ?_ j i hb
    · have := congrArg List.tail hl
      simpa [List.tail_drop] using this
    · intro j hj i hb
      rcases Nat.lt_or_ge j tbl.length with hj' | hj'
      · rw [List.getD_eq_getElem?_getD, List.getElem?_append_left hj', ← List.getD_eq_getElem?_getD] at hb
        exact h j hj' i hb
      · have : j = tbl.length := by simp at hj; omega
        subst this
        rw [List.getD_eq_getElem?_getD, List.getElem?_append_right (Nat.le_refl _)] at hb
        simp only [Nat.sub_self, List.getElem?_cons_zero, Option.getD_some] at hb
        obtain ⟨e, h1, h2, h3⟩ := maskOf_bit hb
        intro L hcl haf
        have hon := haf o ho e h1 h2
        rcases h3 with rfl | h3
        · exact hon
        · rcases Nat.lt_or_ge e.on tbl.length with hlt | hge
          · exact h e.on hlt i h3 L hcl fun o' ho' e' he' hb' => hcl e.on o' hon ho' e' he' hb'
          · rw [List.getD_eq_getElem?_getD, List.getElem?_eq_none hge] at h3
            simp at h3

section
variable {P : Program} {gl : Gl} {N : Nat} {ops : Array Oper} {fr : Fr} {st : St} {q : Nat} {g : Bool} {op : Op} {lk : Look}

theorem rds_none (h : rds op = false) : (aop P gl g op fr lk q).rd = [] := by
  cases op with
  | load | store | indexAddr | slice | lookup | mapUpdate | next => cases h
  | range t x => exact rd_range
  | call c =>
    obtain ⟨callee, args, ats⟩ := c
    cases callee with
    | value f => rfl
    | invoke r m => rfl
    | builtin b =>
      cases b <;> first | (cases h; done) | skip
      all_goals
        simp only [aop]
        generalize args.toList = l
        generalize ats.toList = l'
        first | rfl | (split <;> first | contradiction | rfl | exact rd_max | exact rd_min)
  | pick c a b => exact rd_pick
  | build t ps => exact rd_build
  | buildSlice t len ps => simp only [aop]; cases gl.imm t <;> rfl
  | binOp o t x y u =>
    simp only [aop]
    split <;> first | exact rd_eq | exact rd_bin
  | unOp o t x => exact rd_un
  | convert s t x => exact rd_convert
  | makeFunc f a b => cases f <;> rfl
  | makeMap t r => cases r with
    | none => exact rd_makeMap
    | some r => rfl
  | makeSlice t l c => exact rd_makeSlice
  | fieldAddr t x f => exact rd_fieldAddr
  | field t x f => exact rd_field
  | index t x y => exact rd_index
  | extract x j => exact rd_extract
  | _ => rfl

theorem wrs_rds (h : wrs op = false) (hr : rds op = true) : (aop P gl g op fr lk q).up = none := by
  cases op <;> first | (cases h; done) | (cases hr; done) | skip
  case load => exact (aLoad_still _ _ _).1
  case indexAddr => exact (aIndexAddr_still _ _ _ _ _).1
  case slice => exact (aSlice_still _ _ _ _ _ _ _).1
  case lookup => exact (aLookup_still _ _ _ _ _ _ _).1
  case call c =>
    obtain ⟨callee, args, ats⟩ := c
    cases callee with
    | value f => rfl
    | invoke r m => rfl
    | builtin b =>
      cases b <;> first | (cases h; done) | (cases hr; done) | skip
      simp only [aop]
      generalize args.toList = l
      generalize ats.toList = l'
      first | rfl | (split <;> first | contradiction | rfl | exact (aLen_still _ _ _).1)

theorem fits_rds {b : Nat} {x : Row} (h : Fits P gl N ops b x fr st) (hr : rds x.o.op = false) (hc : callOf x.o.op ≠ none → x.r.rd = []) : x.rd = [] := by
  unfold Row.rd
  cases hG : x.G with
  | false => rfl
  | true =>
    rcases h.does hG with ⟨_, e, _⟩ | ⟨_, _, _, _, _, _, _, e, _⟩
    · rw [e]; exact rds_none hr
    · exact hc (by rw [e]; simp)
theorem fits_wrs {b : Nat} {x : Row} (h : Fits P gl N ops b x fr st) (hw : wrs x.o.op = false) (hc : callOf x.o.op ≠ none → x.r.rd = []) : x.wr = [] := by
  cases hr : rds x.o.op with
  | false =>
    have := fits_rds h hr hc
    rw [List.eq_nil_iff_forall_not_mem]
    intro o ho
    have := wr_rd h.upRd ho
    rw [fits_rds h hr hc] at this; cases this
  | true =>
    unfold Row.wr
    cases hG : x.G with
    | false => rfl
    | true =>
      rcases h.does hG with ⟨_, e, _, _, hu⟩ | ⟨_, _, _, _, _, _, _, e, _⟩
      · rw [e, wrs_rds hw hr, hu]; rfl
      · rw [List.eq_nil_iff_forall_not_mem]
        intro o ho
        have h1 : o ∈ x.wr := by unfold Row.wr; rw [hG]; exact ho
        have h2 := wr_rd h.upRd h1
        unfold Row.rd at h2
        rw [hG, hc (by rw [e]; simp)] at h2
        cases h2
end
end Go.Am

/-
  AM, part 29: from the evaluator's form to the theorem on drawn regions.
-/
namespace Go.Am
open Go

def nNeeds : List Oper → Nat
  | [] => 0
  | o :: l => nNeeds l + (bif needs o.op then 1 else 0)

def qOk : Nat → List Row → Prop
  | _, [] => True
  | q, x :: l => x.q = q ∧ qOk (bif needs x.o.op then q + 1 else q) l

def logOf (trk : List Nat) : Nat → List Row → Log
  | _, [] => []
  | i, x :: l => bif trk.contains i then (x.r.rd, upL x.r ++ x.ups.map (·.1)) :: logOf trk (i + 1) l else logOf trk (i + 1) l

/-- calls that are not followed read nothing -/
def nrd (trk : List Nat) : Nat → List Row → Prop
  | _, [] => True
  | i, x :: l => (trk.contains i = false → callOf x.o.op ≠ none → x.r.rd = []) ∧ nrd trk (i + 1) l
theorem nrd_at {trk : List Nat} : ∀ (l : List Row) (i j : Nat) (h : j < l.length), nrd trk i l → trk.contains (i + j) = false → callOf (l[j]).o.op ≠ none → (l[j]).r.rd = []
  | x :: l, i, 0, _, h, ht, hc => h.1 (by simpa using ht) hc
  | x :: l, i, j + 1, hj, h, ht, hc => nrd_at l (i + 1) j (by simpa using hj) h.2 (by rw [← ht]; congr 1; omega) hc

section
variable {P : Program} {gl : Gl} {N : Nat} {ops : Array Oper} {b : Nat} {trk : List Nat} {K : Fr → St → Prop} {w0 : World} {μ0 : Mu} {st0 : St} {Q : Exit → Act → World → Prop}

theorem kept_step {x : Row} {fr : Fr} {st : St} {q : Nat} (h : Fits P gl N ops b x fr st) (hq : st[q]? = some (some .resv)) (hne : needs x.o.op = true → q ≠ x.q) : (x.st st)[q]? = some (some .resv) := by
  rw [st_same fun hm => ?_]
  · exact hq
  · rcases tch_cases hm with hm | ⟨e, hm⟩
    · obtain ⟨ob, h1, h2⟩ := fits_there h _ (wr_rd h.upRd hm)
      rw [hq] at h1; cases h1; exact h2 rfl
    · exact hne (h.makes hm) e

/-- rows, from one row and the rest -/
theorem rows_cons {o : Oper} {l : List Oper} {i k : Nat} {lg : Log} {fr : Fr} {st : St} (x : Row) (hx : x.o = o) (hq : x.q = b + k) (hf : Fits P gl N ops b x fr st) (hnr : trk.contains i = false → callOf x.o.op ≠ none → x.r.rd = [])
    (hk : ∀ m, k ≤ m → m < k + nNeeds (o :: l) → st[b + m]? = some (some .resv))
    (ih : (∀ m, (bif needs o.op then k + 1 else k) ≤ m → m < (bif needs o.op then k + 1 else k) + nNeeds l → (x.st st)[b + m]? = some (some .resv)) →
      ∃ rows : List Row, rows.map (·.o) = l ∧ qOk (b + (bif needs o.op then k + 1 else k)) rows ∧ Trace P gl N ops b rows (x.ap (fr, st)) ∧ K (full rows (x.ap (fr, st))).1 (full rows (x.ap (fr, st))).2 ∧ lgOk (lgAdd (trk.contains i) lg x.r x.ups ++ logOf trk (i + 1) rows) ∧ nrd trk (i + 1) rows) :
    ∃ rows : List Row, rows.map (·.o) = o :: l ∧ qOk (b + k) rows ∧ Trace P gl N ops b rows (fr, st) ∧ K (full rows (fr, st)).1 (full rows (fr, st)).2 ∧ lgOk (lg ++ logOf trk i rows) ∧ nrd trk i rows := by
  obtain ⟨rows, h1, h2, h3, h4, h5, h6⟩ := ih fun m h1 h2 => by
    refine kept_step hf (hk m ?_ ?_) fun hn => ?_
    · cases hn : needs o.op <;> simp [hn] at h1 <;> omega
    · simp only [nNeeds]; cases hn : needs o.op <;> simp [hn] at h2 ⊢ <;> omega
    · rw [hx] at hn
      rw [hq]
      simp [hn] at h1; omega
  refine ⟨x :: rows, by simp [hx, h1], ⟨hq, ?_⟩, ⟨hf, h3⟩, h4, ?_, hnr, h6⟩
  · rw [hx]
    cases hn : needs o.op <;> simp [hn] at h2 ⊢
    · exact h2
    · exact h2
  · simp only [logOf]
    unfold lgAdd at h5
    cases ht : trk.contains i with
    | false => rw [ht] at h5; exact h5
    | true =>
      rw [ht] at h5
      simp only [cond_true, List.append_assoc, List.cons_append, List.nil_append] at h5 ⊢
      exact h5

set_option maxHeartbeats 1000000 in
theorem ev_rows : ∀ (l : List Oper) (i k : Nat) (lg : Log) (fr : Fr) (st : St), EvD P gl N ops b trk K l i k lg fr st →
    (∀ m, k ≤ m → m < k + nNeeds l → st[b + m]? = some (some .resv)) →
    ∃ rows : List Row, rows.map (·.o) = l ∧ qOk (b + k) rows ∧ Trace P gl N ops b rows (fr, st) ∧ K (full rows (fr, st)).1 (full rows (fr, st)).2 ∧ lgOk (lg ++ logOf trk i rows) ∧ nrd trk i rows
  | [], i, k, lg, fr, st, h, _ => ⟨[], rfl, trivial, trivial, h.2, by simpa [logOf] using h.1, trivial⟩
  | ⟨dst, op, ty, pos, af, none⟩ :: l, i, k, lg, fr, st, h, hk => by
    simp only [EvD] at h
    by_cases h0 : opk op = 0
    · rw [h0] at h
      obtain ⟨h1, h2⟩ := (opk_spec op).1 h0
      obtain ⟨a, c, d⟩ := h
      refine rows_cons ⟨_, b + k, true, aop P gl true op fr (look st) (b + k), []⟩ rfl rfl ⟨c, trivial, rfl, ⟨aop_upRd, fun _ h => (by cases h)⟩, fun _ => .inl ⟨h1, rfl, a, (fun hn => by rw [h2] at hn; cases hn), rfl⟩, fun hn => absurd (aop_new h2) hn⟩ (fun _ hc => absurd h1 hc) hk ?_
      rw [h2]
      exact fun hk' => ev_rows l _ _ _ _ _ d hk'
    · by_cases h1' : opk op = 1
      · rw [h1'] at h
        obtain ⟨h1, h2⟩ := (opk_spec op).2 h1'
        obtain ⟨a, c, d⟩ := h
        refine rows_cons ⟨_, b + k, true, aop P gl true op fr (look st) (b + k), []⟩ rfl rfl ⟨c, trivial, rfl, ⟨aop_upRd, fun _ h => (by cases h)⟩, fun _ => .inl ⟨h1, rfl, a, fun hn => hk k (Nat.le_refl _) ?_, rfl⟩, fun _ => h2⟩ (fun _ hc => absurd h1 hc) hk ?_
        · simp only [nNeeds, h2, cond_true]; omega
        · rw [h2]
          exact fun hk' => ev_rows l _ _ _ _ _ d hk'
      · obtain ⟨f, args, ats, rfl⟩ := call_of_two h0 h1'
        simp only [opk, EvD0, EvDC] at h
        cases hf : ev1 gl fr f <;> rw [hf] at h <;> first | exact h.elim | skip
        obtain ⟨a, ⟨c, d⟩, r, rd, ups, hp, hu, hrd, htr, e⟩ := h
        refine rows_cons ⟨_, b + k, true, ⟨r, True, rd, none, none⟩, ups⟩ rfl rfl ⟨a, trivial, rfl, ⟨upRd_none rfl, hu⟩, fun _ => .inr ⟨f, args.toList, _, _, _, r, rd, rfl, c, d, hf, hp, rfl, fun o ho => ⟨(hrd o ho).1, let ⟨ob, h1, h2⟩ := (hrd o ho).2; ⟨ob, look_get.1 h1, h2⟩⟩⟩, fun hn => absurd rfl hn⟩ (fun ht _ => htr ht) hk ?_
        exact fun hk' => ev_rows l _ _ _ _ _ e hk'
  | ⟨dst, op, ty, pos, af, some (j, want)⟩ :: l, i, k, lg, fr, st, h, hk => by
    simp only [EvD] at h
    cases hg : gget fr want (gslot ops j) with
    | none => rw [hg] at h; unfold EvDG at h; split at h <;> first | exact h.elim | (rename_i e; cases e)
    | some G =>
      rw [hg] at h
      obtain ⟨g1, g2⟩ := gget_ok (dst := dst) (op := op) (ty := ty) (pos := pos) (af := af) hg
      by_cases h0 : opk op = 0
      · rw [h0] at h
        obtain ⟨a, c, d⟩ := h
        obtain ⟨h1, h2⟩ := (opk_spec op).1 h0
        refine rows_cons ⟨_, b + k, G, aop P gl G op fr (look st) (b + k), []⟩ rfl rfl ⟨c, g2.symm ▸ trivial, g1.symm, ⟨aop_upRd, fun _ h => (by cases h)⟩, fun (hG : G = true) => .inl ⟨h1, by subst hG; rfl, a hG, (fun hn => by rw [h2] at hn; cases hn), rfl⟩, fun hn => absurd (aop_new h2) hn⟩ (fun _ hc => absurd h1 hc) hk ?_
        rw [h2]
        exact fun hk' => ev_rows l _ _ _ _ _ d hk'
      · by_cases h1 : opk op = 1
        · rw [h1] at h; exact h.elim
        · obtain ⟨f, args, ats, rfl⟩ := call_of_two h0 h1
          simp only [opk, EvDG, EvDGC] at h
          cases hf : ev1 gl fr f <;> rw [hf] at h <;> first | exact h.elim | skip
          obtain ⟨a, ⟨c, d⟩, r, rd, ups, hp, hu, hrd, htr, hgf, e⟩ := h
          refine rows_cons ⟨_, b + k, G, ⟨r, True, rd, none, none⟩, ups⟩ rfl rfl ⟨a, g2.symm ▸ trivial, g1.symm, ⟨upRd_none rfl, hu⟩, fun (hG : G = true) => .inr ⟨f, args.toList, _, _, _, r, rd, rfl, by subst hG; exact c, by subst hG; exact d, hf, hp hG, rfl, fun o ho => ⟨(hrd o ho).1, let ⟨ob, h1, h2⟩ := (hrd o ho).2; ⟨ob, look_get.1 h1, h2⟩⟩⟩, fun hn => absurd rfl hn⟩ (fun ht _ => htr ht) hk ?_
          have es : (bif G then puts ((LR.mk r True rd none none).app (b + k) st) ups else st) = puts st ups := by
            cases G with
            | true => rfl
            | false => exact (hgf rfl).symm
          intro hk'
          simp only [Row.ap, Row.st, Row.fr, Row.d, es] at hk' ⊢
          exact ev_rows l _ _ _ _ _ e hk'

theorem qOk_lt : ∀ (l : List Row) (q : Nat), qOk q l → ∀ j (h : j < l.length), q ≤ (l[j]).q ∧ (needs (l[j]).o.op = true → (l[j]).q < q + nNeeds (l.map (·.o)))
  | x :: l, q, h, 0, _ => by
    refine ⟨Nat.le_of_eq h.1.symm, fun hn => ?_⟩
    simp only [List.getElem_cons_zero] at hn ⊢
    rw [h.1]
    simp only [List.map_cons, nNeeds, hn, cond_true]; omega
  | x :: l, q, h, j + 1, hj => by
    have := qOk_lt l _ h.2 j (by simpa using hj)
    simp only [List.getElem_cons_succ, List.map_cons, nNeeds]
    cases hn : needs x.o.op <;> simp only [hn, cond_true, cond_false] at this ⊢
    · exact ⟨this.1, fun h => by have := this.2 h; omega⟩
    · exact ⟨by omega, fun h => by have := this.2 h; omega⟩

theorem qOk_ne : ∀ (l : List Row) (q : Nat), qOk q l → ∀ i j (hi : i < l.length) (hj : j < l.length), i < j → needs (l[i]).o.op = true → (l[i]).q < (l[j]).q
  | x :: l, q, h, 0, j + 1, _, hj, _, hn => by
    simp only [List.getElem_cons_zero, List.getElem_cons_succ] at hn ⊢
    have := (qOk_lt l _ h.2 j (by simpa using hj)).1
    rw [hn, cond_true] at this
    rw [h.1]; omega
  | x :: l, q, h, i + 1, j + 1, hi, hj, hij, hn => by
    simp only [List.getElem_cons_succ] at hn ⊢
    exact qOk_ne l _ h.2 i j (by simpa using hi) (by simpa using hj) (by omega) hn

theorem lgVs_of {rd up : List Nat} : ∀ {lg : Log}, lgVs rd up lg → ∀ y ∈ lg, (∀ o ∈ up, o ∉ y.1) ∧ ∀ o ∈ y.2, o ∉ rd
  | (rd', up') :: l, h, y, hy => by
    rcases List.mem_cons.1 hy with e | e
    · subst e
      exact ⟨h.1, h.2.1⟩
    · exact lgVs_of h.2.2 y e

theorem logOf_mem {trk : List Nat} : ∀ (l : List Row) (i j : Nat) (h : j < l.length), trk.contains (i + j) = true → ((l[j]).r.rd, upL (l[j]).r ++ (l[j]).ups.map (·.1)) ∈ logOf trk i l
  | x :: l, i, 0, _, ht => by simp only [logOf, Nat.add_zero] at ht ⊢; rw [ht]; simp
  | x :: l, i, j + 1, hj, ht => by
    have := logOf_mem l (i + 1) j (by simpa using hj) (by rw [← ht]; congr 1; omega)
    simp only [logOf, List.getElem_cons_succ]
    cases trk.contains i with
    | true => exact List.mem_cons_of_mem _ this
    | false => exact this

theorem wr_up {x : Row} {o : Nat} (h : o ∈ x.wr) : o ∈ upL x.r ++ x.ups.map (·.1) := by
  unfold Row.wr at h
  cases hG : x.G <;> rw [hG] at h <;> simp only [cond_true, cond_false] at h
  · cases h
  · exact h
theorem rd_rd {x : Row} {o : Nat} (h : o ∈ x.rd) : o ∈ x.r.rd := by
  unfold Row.rd at h
  cases hG : x.G <;> rw [hG] at h
  · cases h
  · exact h

theorem lgOk_of {trk : List Nat} : ∀ (l : List Row) (i : Nat), lgOk (logOf trk i l) → ∀ j m (hj : j < l.length) (hm : m < l.length), j < m → trk.contains (i + j) = true → trk.contains (i + m) = true →
    (∀ o ∈ (l[j]).wr, o ∉ (l[m]).rd) ∧ ∀ o ∈ (l[m]).wr, o ∉ (l[j]).rd
  | x :: l, i, h, 0, m + 1, _, hm, _, t1, t2 => by
    simp only [logOf, Nat.add_zero] at h t1
    rw [t1] at h
    have := lgVs_of h.1 _ (logOf_mem l (i + 1) m (by simpa using hm) (by rw [← t2]; congr 1; omega))
    simp only [List.getElem_cons_zero, List.getElem_cons_succ]
    exact ⟨fun o ho ho' => this.1 o (wr_up ho) (rd_rd ho'), fun o ho ho' => this.2 o (wr_up ho) (rd_rd ho')⟩
  | x :: l, i, h, j + 1, m + 1, hj, hm, hjm, t1, t2 => by
    have h' : lgOk (logOf trk (i + 1) l) := by
      simp only [logOf] at h
      cases ht : trk.contains i with
      | true => rw [ht] at h; exact h.2
      | false => rw [ht] at h; exact h
    simp only [List.getElem_cons_succ]
    exact lgOk_of l (i + 1) h' j m (by simpa using hj) (by simpa using hm) (by omega) (by rw [← t1]; congr 1; omega) (by rw [← t2]; congr 1; omega)

theorem trace_fits {rows : List Row} {s : Fr × St} (h : Trace P gl N ops b rows s) (j : Nat) (hj : j < rows.length) : ∃ s' : Fr × St, Fits P gl N ops b (rows[j]) s'.1 s'.2 := by
  have e : rows = rows.take j ++ rows[j] :: rows.drop (j + 1) := by rw [List.getElem_cons_drop, List.take_append_drop]
  rw [e] at h
  exact ⟨_, trace_at _ h⟩

theorem conc_pad {fr : Fr} {a : Act} {w : World} : ∀ (n : Nat) {st : St} {μ : Mu}, Conc gl N w0 μ0 st0 fr st a w μ → ∃ μ', Conc gl N w0 μ0 st0 fr (st ++ List.replicate n (some .resv)) a w μ'
  | 0, st, μ, h => ⟨μ, by simpa using h⟩
  | n + 1, st, μ, h => by
    obtain ⟨k1, k2⟩ := sim_keep h.sim
    obtain ⟨μ', h'⟩ := conc_pad n (st := st ++ [some .resv]) ⟨k1, h.glob.step k2, h.fr.step k2, h.size, h.defers, h.step.trans k2⟩
    exact ⟨μ', by simpa [List.replicate_succ, List.append_assoc] using h'⟩

theorem conc_drawn {fr : Fr} {a : Act} {w : World} {st : St} {μ : Mu} (h : Conc gl N w0 μ0 st0 fr st a w μ) : Conc gl N w0 μ0 st0 fr st a { w with drawn := w.drawn + 1 } μ := by
  have step : Step w μ st { w with drawn := w.drawn + 1 } μ st := ⟨Nat.le_refl _, rfl, rfl, rfl, fun _ _ _ => rfl, fun _ h => .inl h, Nat.le_refl _, fun _ ob' _ h => ⟨ob', h, by
    cases ob' with
    | arr g n b es => exact ⟨Nat.le_refl _, fun _ => ⟨rfl, rfl, rfl, rfl, fun blk base c ty _ hh => ⟨c, hh, rfl⟩⟩⟩
    | mps => exact ⟨rfl, rfl⟩
    | mpi => exact ⟨rfl, rfl, rfl⟩
    | sit => rfl
    | resv => trivial⟩⟩
  exact ⟨⟨fun o ob ho => (h.sim.obj o ob ho).step step (fun _ _ _ => rfl), h.sim.inj⟩, h.glob.step step, h.fr.step step, h.size, h.defers, h.step.trans step⟩

variable {n0 : Nat} {keep : List Nat} {AQ' : AQ} {fr : Fr} {st : St}

theorem ev_draw_region {id : Nat} {l : List Oper} (trk : List Nat) (n : Nat) (hm : P.follows .mixedOrders = true) (ho : orderly l.toArray trk = true) (hn : nNeeds l = n)
    (h : EvD P gl N l.toArray st.length trk (fun fr st => AQ' .normal (Fr.only keep fr) st) l 0 0 [] fr (st ++ List.replicate n (some .resv))) :
    AWp P gl N n0 keep (.region id l.toArray true) AQ' fr st := by
  intro w0 μ0 st0 hl a w ⟨μ, hc⟩
  obtain ⟨μ1, hc1⟩ := conc_pad n (conc_drawn hc)
  have hget : ∀ m, m < n → (st ++ List.replicate n (some Ob.resv))[st.length + m]? = some (some .resv) := fun m hm => by
    rw [List.getElem?_append_right (by omega), Nat.add_sub_cancel_left]
    simp [hm]
  obtain ⟨rows, h1, h2, h3, h4, h5, h6⟩ := ev_rows l 0 0 [] fr _ h fun m _ hm => hget m (by omega)
  refine wp_region_any hm ?_
  have hlen : rows.length = l.length := by rw [← h1]; simp
  have hop : ∀ i (hi : i < rows.length), l.toArray[i]? = some (rows[i]).o := fun i hi => by
    have : l[i]? = (rows.map (·.o))[i]? := by rw [h1]
    simpa [hi] using this
  have hchk := ho
  unfold orderly at hchk
  simp only [List.all_eq_true, List.mem_range, Bool.and_eq_true] at hchk
  have hgood : Good P gl N l.toArray st.length rows (fr, st ++ List.replicate n (some .resv)) := by
    refine ⟨by simpa using h1.symm, h3, fun i j hi hj hne hni hnj => ?_, fun x hx hnx => ?_, fun i o hio e he hb => ?_, fun i j hi hj hij => ?_⟩
    · rcases Nat.lt_or_gt_of_ne hne with hlt | hlt
      · exact Nat.ne_of_lt (qOk_ne rows _ h2 i j hi hj hlt hni)
      · exact Nat.ne_of_gt (qOk_ne rows _ h2 j i hj hi hlt hnj)
    · obtain ⟨j, hj, e⟩ := List.getElem_of_mem hx
      have := qOk_lt rows _ h2 j hj
      rw [e, h1, hn] at this
      obtain ⟨q1, q2⟩ := this
      have q3 := q2 hnx
      have := hget (x.q - st.length) (by omega)
      rw [show st.length + (x.q - st.length) = x.q by omega] at this
      exact ⟨this, by omega⟩
    · have hil : i < l.length := by
        rcases Nat.lt_or_ge i l.length with h' | h'
        · exact h'
        · rw [Array.getElem?_eq_none (by simpa using h')] at hio; cases hio
      have := (hchk i (by simpa using hil)).1
      rw [hio] at this
      simp only [List.all_eq_true] at this
      have := this e (by simpa using he)
      rw [hb] at this
      simp only [Bool.not_true, Bool.false_or] at this
      exact Nat.lt_of_lt_of_le (Nat.lt_succ_self _) (Nat.le_of_ble_eq_true this)
    · have hp := (hchk j (by simpa [← hlen] using hj)).2 i hij
      unfold pairOk at hp
      rw [hop i hi, hop j hj] at hp
      simp only [Bool.or_eq_true] at hp
      rcases hp with hp | hp
      · exact .inl (masks_ord l.toArray.toList [] rfl (fun j hj => absurd hj (Nat.not_lt_zero _)) j i hp)
      · right
        simp only [Bool.and_eq_true, Bool.or_eq_true] at hp
        obtain ⟨hp1, hp2⟩ := hp
        refine ⟨hp1, ?_⟩
        obtain ⟨s1, f1⟩ := trace_fits h3 i hi
        obtain ⟨s2, f2⟩ := trace_fits h3 j hj
        rcases hp2 with ⟨hp2, hp3⟩ | ⟨t1, t2⟩
        · have hcc : ∀ k (hk : k < rows.length), callT trk k (rows[k]).o.op = false → callOf (rows[k]).o.op ≠ none → (rows[k]).r.rd = [] := fun k hk hc hne => by
            refine nrd_at rows 0 k hk h6 ?_ hne
            unfold callT at hc
            have : (callOf (rows[k]).o.op).isSome = true := by cases h : callOf (rows[k]).o.op with
              | none => exact absurd h hne
              | some => rfl
            rw [this, Bool.true_and] at hc
            rw [Nat.zero_add]; exact hc
          refine ⟨fun o a1 a2 => ?_, fun o a1 a2 => ?_⟩
          · cases hw : (wrs (rows[i]).o.op || callT trk i (rows[i]).o.op) with
            | false =>
              rw [Bool.or_eq_false_iff] at hw
              rw [fits_wrs f1 hw.1 (hcc i hi hw.2)] at a1; cases a1
            | true => cases hr : (rds (rows[j]).o.op || callT trk j (rows[j]).o.op) with
              | false =>
                rw [Bool.or_eq_false_iff] at hr
                rw [fits_rds f2 hr.1 (hcc j hj hr.2)] at a2; cases a2
              | true => rw [hw, hr] at hp2; cases hp2
          · cases hw : (wrs (rows[j]).o.op || callT trk j (rows[j]).o.op) with
            | false =>
              rw [Bool.or_eq_false_iff] at hw
              rw [fits_wrs f2 hw.1 (hcc j hj hw.2)] at a1; cases a1
            | true => cases hr : (rds (rows[i]).o.op || callT trk i (rows[i]).o.op) with
              | false =>
                rw [Bool.or_eq_false_iff] at hr
                rw [fits_rds f1 hr.1 (hcc i hi hr.2)] at a2; cases a2
              | true => rw [hw, hr] at hp3; cases hp3
        · exact lgOk_of rows 0 (by simpa using h5) i j hi hj hij (by simpa using t1) (by simpa using t2)
  have hl0 : ∀ i, lst (Array.replicate l.toArray.size false) i = false := fun i => by
    unfold lst
    rw [Array.getD_eq_getD_getElem?]
    by_cases hi : i < l.length
    · simp [hi]
    · simp [hi]
  refine any_sound hgood (fun a w μ hc => ⟨_, _, h4, μ, hc.sim, hc.glob, hc.fr.only keep, hc.size, hc.defers, hc.step⟩) _ _ _ _ μ1 (by simp [hlen]) ?_ ?_ ?_ ?_
  · have : ∀ n, cnt (lst (Array.replicate l.toArray.size false)) n ≤ n := fun n => by
      induction n with
      | zero => exact Nat.le_refl _
      | succ n ih => simp only [cnt, hl0, cond_false]; omega
    have := this rows.length
    simpa [hlen] using this
  · intro k o hk; rw [hl0] at hk; cases hk
  · intro i j hi hj hj'; rw [hl0] at hj'; cases hj'
  · rw [sel_none rows 0 _ fun k _ _ => hl0 k]
    exact hc1

/-- what follows a region -/
theorem ev_seq_draw {id : Nat} {l : List Oper} {c : Code} (trk : List Nat) (n : Nat) (hm : P.follows .mixedOrders = true) (ho : orderly l.toArray trk = true) (hn : nNeeds l = n)
    (h : EvD P gl N l.toArray st.length trk (Then P gl N n0 keep c AQ') l 0 0 [] fr (st ++ List.replicate n (some .resv))) :
    AWp P gl N n0 keep (.seq (.region id l.toArray true) c) AQ' fr st :=
  awp_seq (ev_draw_region trk n hm ho hn h)

end
end Go.Am

/-
  AM, part 30: the equations for drawn regions.
-/
namespace Go.Am
open Go

section
variable {P : Program} {gl : Gl} {N n0 : Nat} {ops : Array Oper} {keep : List Nat} {Q : AQ} {fr : Fr} {st : St} {lg : Log} {b q : Nat} {trk : List Nat} {K : Fr → St → Prop}
  {dst : Option Nat} {op : Op} {l : List Oper} {i k : Nat} {tr : Bool} {kk k1 : Log → Fr → St → Prop} {d : D} {p : Prop} {rd : List Nat} {o : Nat} {ob : Ob} {G : Bool}

@[congr] theorem EvD_congr {fr' : Fr} {st' : St} {lg' : Log} {i' k' : Nat} (h0 : i = i') (h1 : k = k') (h2 : lg = lg') (h : fr = fr') (h3 : st = st') : EvD P gl N ops b trk K l i k lg fr st = EvD P gl N ops b trk K l i' k' lg' fr' st' := by rw [h0, h1, h2, h, h3]
@[congr] theorem EvDR_congr {r r' : LR} (h : r = r') : EvDR N q tr dst lg fr st kk r = EvDR N q tr dst lg fr st kk r' := by rw [h]
@[congr] theorem EvDGR_congr {r r' : LR} (h : r = r') : EvDGR N q G tr dst lg fr st kk r = EvDGR N q G tr dst lg fr st kk r' := by rw [h]
@[congr] theorem EvD0_congr {n n' : Nat} {q' : Nat} {tr' : Bool} (h1 : q = q') (h2 : tr = tr') (h : n = n') : EvD0 P gl N b q tr kk k1 dst op lg fr st n = EvD0 P gl N b q' tr' kk k1 dst op lg fr st n' := by rw [h, h1, h2]
@[congr] theorem EvDG_congr {n n' : Nat} {g g' : Option Bool} {q' : Nat} {tr' : Bool} (h1 : q = q') (h2 : tr = tr') (h : n = n') (h3 : g = g') : EvDG P gl N b q tr kk dst op lg fr st n g = EvDG P gl N b q' tr' kk dst op lg fr st n' g' := by rw [h, h1, h2, h3]
@[congr] theorem EvDC_congr {a a' : Prop} {f f' : D} {args args' : List D} (h : a = a') (h2 : f = f') (h3 : args = args') : EvDC P gl N b tr dst lg fr st kk a f args = EvDC P gl N b tr dst lg fr st kk a' f' args' := by rw [h, h2, h3]
@[congr] theorem EvDGC_congr {a a' : Prop} {f f' : D} {args args' : List D} (h : a = a') (h2 : f = f') (h3 : args = args') : EvDGC P gl N b G tr dst lg fr st kk a f args = EvDGC P gl N b G tr dst lg fr st kk a' f' args' := by rw [h, h2, h3]

@[congr] theorem DCall_congr {f : FuncId} {args args' : List D} (h : args = args') : DCall P gl b tr dst lg fr st kk f args = DCall P gl b tr dst lg fr st kk f args' := by rw [h]
@[congr] theorem DGCall_congr {f : FuncId} {args args' : List D} (h : args = args') : DGCall P gl b G tr dst lg fr st kk f args = DGCall P gl b G tr dst lg fr st kk f args' := by rw [h]
theorem evd_nil : EvD P gl N ops b trk K [] i k lg fr st = (lgOk lg ∧ K fr st) := rfl
theorem evd_app {o : Oper} {l' : List Oper} : EvD P gl N ops b trk K (List.append (o :: l) l') i k lg fr st = EvD P gl N ops b trk K (o :: List.append l l') i k lg fr st := rfl
theorem evd_app0 {l' : List Oper} : EvD P gl N ops b trk K (List.append [] l') i k lg fr st = EvD P gl N ops b trk K l' i k lg fr st := rfl
theorem evd_cons {ty : TypeId} {pos : String} {af : Array Edge} : EvD P gl N ops b trk K (⟨dst, op, ty, pos, af, none⟩ :: l) i k lg fr st =
    EvD0 P gl N b (b + k) (trk.contains i) (EvD P gl N ops b trk K l (i + 1) k) (EvD P gl N ops b trk K l (i + 1) (k + 1)) dst op lg fr st (opk op) := rfl
theorem evd_consg {ty : TypeId} {pos : String} {af : Array Edge} {j : Nat} {want : Bool} : EvD P gl N ops b trk K (⟨dst, op, ty, pos, af, some (j, want)⟩ :: l) i k lg fr st =
    EvDG P gl N b (b + k) (trk.contains i) (EvD P gl N ops b trk K l (i + 1) k) dst op lg fr st (opk op) (gget fr want (gslot ops j)) := rfl
theorem evd0_0 : EvD0 P gl N b q tr kk k1 dst op lg fr st 0 = EvDR N q tr dst lg fr st kk (aop P gl true op fr (look st) q) := rfl
theorem evd0_1 : EvD0 P gl N b q tr kk k1 dst op lg fr st 1 = EvDR N q tr dst lg fr st k1 (aop P gl true op fr (look st) q) := rfl
theorem evd0_2 {f : Operand} {args : Array Operand} {ats : Array TypeId} : EvD0 P gl N b q tr kk k1 dst (.call ⟨.value f, args, ats⟩) lg fr st 2 = EvDC P gl N b tr dst lg fr st kk (eok gl true fr f ∧ (∀ x ∈ args.toList, eok gl true fr x)) (ev1 gl fr f) (args.toList.map (ev1 gl fr)) := rfl
theorem evdg_0 : EvDG P gl N b q tr kk dst op lg fr st 0 (some G) = EvDGR N q G tr dst lg fr st kk (aop P gl G op fr (look st) q) := rfl
theorem evdg_2 {f : Operand} {args : Array Operand} {ats : Array TypeId} : EvDG P gl N b q tr kk dst (.call ⟨.value f, args, ats⟩) lg fr st 2 (some G) = EvDGC P gl N b G tr dst lg fr st kk (eok gl G fr f ∧ (∀ x ∈ args.toList, eok gl G fr x)) (ev1 gl fr f) (args.toList.map (ev1 gl fr)) := rfl
theorem evdr_p : EvDR N q tr dst lg fr st kk ⟨d, p, rd, none, none⟩ = (p ∧ dlt N dst ∧ kk (lgAdd tr lg ⟨d, p, rd, none, none⟩ []) (fr.putO dst d) st) := rfl
theorem evdr_u : EvDR N q tr dst lg fr st kk ⟨d, p, rd, some (o, ob), none⟩ = (p ∧ dlt N dst ∧ kk (lgAdd tr lg ⟨d, p, rd, some (o, ob), none⟩ []) (fr.putO dst d) (st.set o (some ob))) := rfl
theorem evdr_n : EvDR N q tr dst lg fr st kk ⟨d, p, rd, none, some ob⟩ = (p ∧ dlt N dst ∧ kk (lgAdd tr lg ⟨d, p, rd, none, some ob⟩ []) (fr.putO dst d) (st.set q (some ob))) := rfl
theorem evdgr_p : EvDGR N q G tr dst lg fr st kk ⟨d, p, rd, none, none⟩ = (gImp G p ∧ dlt N dst ∧ kk (lgAdd tr lg ⟨d, p, rd, none, none⟩ []) (fr.putO dst (.cond G d)) st) := by cases G <;> rfl
theorem evdc_fn {g : FuncId} {first cap args : List D} : EvDC P gl N b tr dst lg fr st kk p (.fn g first cap) args = (dlt N dst ∧ p ∧ DCall P gl b tr dst lg fr st kk g (first ++ args ++ cap)) := rfl
theorem evdgc_fn {g : FuncId} {first cap args : List D} : EvDGC P gl N b G tr dst lg fr st kk p (.fn g first cap) args = (dlt N dst ∧ p ∧ DGCall P gl b G tr dst lg fr st kk g (first ++ args ++ cap)) := rfl
theorem lgAdd_f {r : LR} {ups : List (Nat × Ob)} : lgAdd false lg r ups = lg := rfl
/-- a call without objects, in a drawn region -/
theorem dc_pure {f : FuncId} {args : List D} {r : D} (h : Pure P gl f args r) (hk : kk (lgAdd tr lg ⟨r, True, [], none, none⟩ []) (fr.putO dst r) st) :
    DCall P gl b tr dst lg fr st kk f args :=
  ⟨r, [], [], h.loc, fun _ h => (by cases h), fun _ h => (by cases h), fun _ => rfl, hk⟩
theorem dgc_pure {f : FuncId} {args : List D} {r : D} (h : G = true → Pure P gl f args r) (hk : kk (lgAdd tr lg ⟨r, True, [], none, none⟩ []) (fr.putO dst (.cond G r)) st) :
    DGCall P gl b G tr dst lg fr st kk f args :=
  ⟨r, [], [], fun e => (h e).loc, fun _ h => (by cases h), fun _ h => (by cases h), fun _ => rfl, fun _ => rfl, hk⟩
theorem lgAdd_t {ups : List (Nat × Ob)} : lgAdd true lg ⟨d, p, rd, none, some ob⟩ ups = lg ++ [(rd, ups.map (·.1))] := rfl
theorem lgAdd_tp {ups : List (Nat × Ob)} : lgAdd true lg ⟨d, p, rd, none, none⟩ ups = lg ++ [(rd, ups.map (·.1))] := rfl
theorem lgAdd_tu {ups : List (Nat × Ob)} : lgAdd true lg ⟨d, p, rd, some (o, ob), none⟩ ups = lg ++ [(rd, o :: ups.map (·.1))] := rfl

theorem beq_t {b : Bool} : (b == true) = b := by cases b <;> rfl
theorem beq_f {b : Bool} : (b == false) = !b := by cases b <;> rfl
theorem gslot_list {l : List Oper} {j : Nat} : gslot l.toArray j = (l[j]?).bind (·.dst) := by simp [gslot]
theorem ex_slice {e : Nat} : (∃ t, TK.slice e = TK.slice t) = True := eq_true ⟨e, rfl⟩
theorem ex_map {a c : Nat} : (∃ t u, TK.map a c = TK.map t u) = True := eq_true ⟨a, c, rfl⟩
theorem ex_map2 {a c : Nat} : (∃ t u, TK.map a c = .map t u) = True := eq_true ⟨a, c, rfl⟩
end

attribute [go_sem] beq_t beq_f gslot_list Option.bind_some ex_slice ex_map ofVal ofCell Int.toNat_natCast imp_self false_implies evd_app evd_app0 evd_nil evd_cons evd_consg evd0_0 evd0_1 evd0_2 evdg_0 evdg_2 evdr_p evdr_u evdr_n evdgr_p evdc_fn evdgc_fn lgAdd_f lgAdd_t lgAdd_tp lgAdd_tu lgVs lgOk Nat.add_zero

end Go.Am

/-
  AM, part 31: loops that go so many rounds.
-/
namespace Go.Am
open Go

section
variable {P : Program} {gl : Gl} {N n0 : Nat} {keep : List Nat} {Q : AQ} {fr : Fr} {st : St} {c : Code}

theorem ink_succ {k n b : Nat} (hk : k < n) (h : n * b ≤ top) (hb : 1 ≤ b) : InK .i64 ((k : Int) + 1) := by
  have : n * 1 ≤ n * b := Nat.mul_le_mul_left n hb
  have h2 : k < top := by omega
  unfold InK
  simp only [IntKind.min, IntKind.max, IntKind.bits, IntKind.signed, top] at *
  simp
  omega

/-- lengths that the machine can have -/
theorem awp_len {t n b : Nat} {full : Bool} {es : List (List D)} (hg : fr.get t = .sl full n b es) (h : es.length * b ≤ top → AWp P gl N n0 keep c Q fr st) : AWp P gl N n0 keep c Q fr st :=
  awp_use (p := es.length * b ≤ top) (fun w μ tmps _ hf => by
    have := hf t
    rw [hg] at this
    generalize tmps.getD t undef = v at this
    cases this with
    | tr h => cases h; assumption) h
end

/-- a slice as it is read: rows of n cells, b bytes -/
def Sl (n b : Nat) (d : D) (rows : List (List D)) : Prop := (d = .nils ∧ rows = []) ∨ ∃ full, d = .sl full n b rows

/-- rows of n cells -/
def RowsN (n : Nat) (rows : List (List D)) : Prop := ∀ r ∈ rows, r.length = n ∧ r.all D.one = true

theorem getD_mem {α : Type} {l : List α} {k : Nat} {d : α} (h : k < l.length) : l.getD k d ∈ l := by
  rw [List.getD_eq_getElem?_getD, List.getElem?_eq_getElem h]; exact List.getElem_mem h

theorem RowsN.at {n : Nat} {rows : List (List D)} (h : RowsN n rows) {k : Nat} (hk : k < rows.length) : ∃ r, rows.getD k [] = r ∧ r.length = n ∧ r.take n = r ∧ r.all D.one = true ∧ r ∈ rows := by
  have hm := getD_mem (d := []) hk
  obtain ⟨h1, h2⟩ := h _ hm
  exact ⟨_, rfl, h1, List.take_of_length_le (by omega), h2, hm⟩
theorem RowsN.at1 {rows : List (List D)} (h : RowsN 1 rows) {k : Nat} (hk : k < rows.length) : ∃ a, rows.getD k [] = [a] ∧ a.one = true ∧ [a] ∈ rows := by
  have hm := getD_mem (d := []) hk
  obtain ⟨h1, h2⟩ := h _ hm
  generalize rows.getD k [] = r at *
  match r, h1 with
  | [a], _ => simp at h2; exact ⟨a, rfl, h2, hm⟩
theorem RowsN.at2 {rows : List (List D)} (h : RowsN 2 rows) {k : Nat} (hk : k < rows.length) : ∃ a b, rows.getD k [] = [a, b] ∧ a.one = true ∧ b.one = true ∧ [a, b] ∈ rows := by
  have hm := getD_mem (d := []) hk
  obtain ⟨h1, h2⟩ := h _ hm
  generalize rows.getD k [] = r at *
  match r, h1 with
  | [a, b], _ => simp at h2; exact ⟨a, b, rfl, h2.1, h2.2, hm⟩

end Go.Am

/-
  AM, part 32: to say less of what stands: objects dropped, objects shut for good and read as values, nil read as an empty slice.
-/
namespace Go.Am
open Go

def ShOb : Ob → Ob → Prop
  | .arr g n b es, .arr g' n' b' es' => g' = g ∧ n' = n ∧ b' = b ∧ es'.length = es.length
  | .mps ag _, .mps ag' _ => ag' = ag
  | .mpi ag k _, .mpi ag' k' _ => ag' = ag ∧ k' = k
  | .sit s p, .sit s' p' => s' = s ∧ p' = p
  | .resv, .resv => True
  | _, _ => False

structure Kill (st T : St) : Prop where
  len : T.length ≤ st.length
  sh : ∀ (o : Nat) (ob' : Ob), T[o]? = some (some ob') → ∃ ob, st[o]? = some (some ob) ∧ ShOb ob ob'

section
variable {w : World} {μ : Mu} {st T : St}

theorem Kill.own (hk : Kill st T) {blk : Nat} (h : own μ T blk) : own μ st blk := by
  obtain ⟨o, ob, base, h1, h2⟩ := h
  obtain ⟨ob', h3, _⟩ := hk.sh o ob h1
  exact ⟨o, ob', base, h3, h2⟩

theorem TR.kill (hk : Kill st T) {v : Value} {d : D} (h : TR w (Am.own μ st) v d) : TR w (Am.own μ T) v d :=
  h.mono (fun _ _ hn => ⟨rfl, fun h => hn (hk.own h)⟩) (Nat.le_refl _)

theorem Kill.resv (hk : Kill st T) {o : Nat} (h : st[o]? ≠ some (some .resv)) : T[o]? ≠ some (some .resv) := fun e => by
  obtain ⟨ob, h1, h2⟩ := hk.sh o _ e
  cases ob <;> first | exact h2.elim | exact h h1

theorem VR.kill (hk : Kill st T) {v : Value} {d : D} (h : VR w μ st v d) (hd : D.sc T.length d) : VR w μ T v d := by
  induction h with
  | any v => exact .any v
  | tr h => exact .tr (h.kill hk)
  | agg vs cs hs hc ih => exact .agg vs cs hs (fun j hj => ih j hj (scs_get hd j hj))
  | tup vs cs hs hc ih => exact .tup vs cs hs (fun j hj => ih j hj (scs_get hd j hj))
  | fn f vf vc first cap hf hc hfc hcc ih1 ih2 => exact .fn f vf vc first cap hf hc (fun j hj => ih1 j hj (scs_get hd.1 j hj)) (fun j hj => ih2 j hj (scs_get hd.2 j hj))
  | ref v full o g off len hv ho hr hg h =>
    refine .ref v full o g off len hv hd (hk.resv hr) (fun g' n b es e => ?_) (fun n b es e => ?_)
    · obtain ⟨ob, h1, h2⟩ := hk.sh o _ e
      cases ob <;> first | exact h2.elim | skip
      have := hg _ _ _ _ h1
      rw [h2.1]; exact this
    · obtain ⟨ob, h1, h2⟩ := hk.sh o _ e
      cases ob <;> first | exact h2.elim | skip
      obtain ⟨rfl, rfl, rfl, e4⟩ := h2
      have := h _ _ _ h1
      unfold RefShape at this ⊢
      rw [e4]; exact this
  | ptr v o g i c hv ho hr hg h =>
    refine .ptr v o g i c hv hd (hk.resv hr) (fun g' n b es e => ?_) (fun n b es e => ?_)
    · obtain ⟨ob, h1, h2⟩ := hk.sh o _ e
      cases ob <;> first | exact h2.elim | skip
      have := hg _ _ _ _ h1
      rw [h2.1]; exact this
    · obtain ⟨ob, h1, h2⟩ := hk.sh o _ e
      cases ob <;> first | exact h2.elim | skip
      obtain ⟨rfl, rfl, rfl, e4⟩ := h2
      exact h _ _ _ h1
  | mp v o hv ho hr h1 h2 =>
    refine .mp v o hv hd (hk.resv hr) (fun ag es e => ?_) (fun ag k es e => ?_)
    · obtain ⟨ob, h3, h4⟩ := hk.sh o _ e
      cases ob <;> first | exact h4.elim | skip
      exact h1 _ _ h3
    · obtain ⟨ob, h3, h4⟩ := hk.sh o _ e
      cases ob <;> first | exact h4.elim | skip
      exact h2 _ _ _ h3
  | it v o hv ho hr h =>
    refine .it v o hv hd (hk.resv hr) (fun s p e => ?_)
    obtain ⟨ob, h3, h4⟩ := hk.sh o _ e
    cases ob <;> first | exact h4.elim | skip
    exact h _ _ h3
  | cond v g d h h0 ih => exact .cond v g d (fun e => ih e (hd e)) h0
end

/-- a value that needs no object -/
def D.imm : D → Bool
  | .agg _ | .tup _ | .fn _ _ _ | .ref _ _ _ _ _ | .ptr _ _ _ _ | .mp _ | .it _ | .cond _ _ => false
  | _ => true
def Imm (rows : List (List D)) : Prop := ∀ e ∈ rows, e.all D.imm = true

mutual
inductive Up (st T : St) : D → D → Prop
  | any (d : D) : Up st T d .any
  | same (d : D) : Up st T d d
  | nils (full : Bool) (n b : Nat) (hb : 1 ≤ b) : Up st T .nils (.sl full n b [])
  | nref (full : Bool) (o g n b : Nat) (es : List (List D)) (h : T[o]? = some (some (.arr g n b es))) : Up st T .nils (.ref full o g 0 0)
  | full (f : Bool) (n b : Nat) (es : List (List D)) : Up st T (.sl true n b es) (.sl f n b es)
  | ref (full : Bool) (o g off len n b : Nat) (es : List (List D)) (rows : List (List D)) (h : st[o]? = some (some (.arr g n b es))) (hT : look T o = none) (hb : 1 ≤ b) (hi : Imm es)
      (hr : rows = (es.drop off).take len) : Up st T (.ref full o g off len) (.sl false n b rows)
  | rfull (o g off len : Nat) : Up st T (.ref true o g off len) (.ref false o g off len)
  | agg (cs cs' : List D) (h : Ups st T cs cs') : Up st T (.agg cs) (.agg cs')
  | tup (cs cs' : List D) (h : Ups st T cs cs') (hl : cs.all D.live = true) : Up st T (.tup cs) (.tup cs')
  | cond (g : Bool) (d d' : D) (h : Up st T d d') : Up st T (.cond g d) (.cond g d')
inductive Ups (st T : St) : List D → List D → Prop
  | nil : Ups st T [] []
  | cons (d d' : D) (l l' : List D) (h : Up st T d d') (hl : Ups st T l l') : Ups st T (d :: l) (d' :: l')
end

theorem Ups.len {st T : St} : ∀ {l l' : List D}, Ups st T l l' → l'.length = l.length
  | _, _, .nil => rfl
  | _, _, .cons _ _ _ _ _ h => by simp [h.len]
theorem Ups.get {st T : St} : ∀ {l l' : List D}, Ups st T l l' → ∀ (j : Nat) (h : j < l.length) (h' : j < l'.length), Up st T (l[j]) (l'[j])
  | _, _, .cons _ _ _ _ h _, 0, _, _ => h
  | _, _, .cons _ _ _ _ _ h, j + 1, hj, hj' => h.get j (by simpa using hj) (by simpa using hj')
theorem Ups.refl {st T : St} : ∀ (l : List D), Ups st T l l
  | [] => .nil
  | d :: l => .cons d d l l (.same d) (Ups.refl l)

/-- cell by cell -/
inductive UpRows (st T : St) : List (List D) → List (List D) → Prop
  | same (l : List (List D)) : UpRows st T l l
  | nil : UpRows st T [] []
  | cons (e e' : List D) (l l' : List (List D)) (h : Ups st T e e') (hl : UpRows st T l l') : UpRows st T (e :: l) (e' :: l')
  | snoc (e e' : List D) (l l' : List (List D)) (hl : UpRows st T l l') (h : Ups st T e e') : UpRows st T (l ++ [e]) (l' ++ [e'])

theorem UpRows.spec {st T : St} {l l' : List (List D)} (h : UpRows st T l l') : l'.length = l.length ∧ ∀ (j : Nat) (h : j < l.length) (h' : j < l'.length), Ups st T (l[j]) (l'[j]) := by
  induction h with
  | same l => exact ⟨rfl, fun j _ _ => Ups.refl _⟩
  | nil => exact ⟨rfl, fun j h _ => absurd h (Nat.not_lt_zero _)⟩
  | cons e e' l l' h hl ih =>
    refine ⟨by simp [ih.1], fun j hj hj' => ?_⟩
    cases j with
    | zero => exact h
    | succ j => exact ih.2 j (by simpa using hj) (by simpa using hj')
  | snoc e e' l l' hl h ih =>
    refine ⟨by simp [ih.1], fun j hj hj' => ?_⟩
    by_cases hjl : j < l.length
    · rw [List.getElem_append_left hjl, List.getElem_append_left (by rw [ih.1]; exact hjl)]
      exact ih.2 j hjl _
    · have : j = l.length := by simp at hj; omega
      subst this
      have e1 : (l ++ [e])[l.length] = e := by simp
      have e2 : (l' ++ [e'])[l.length]'hj' = e' := by rw [List.getElem_append_right (by omega)]; simp
      rw [e1, e2]; exact h

inductive UpOb (st T : St) : Ob → Ob → Prop
  | same (ob : Ob) : UpOb st T ob ob
  | arr (g n b : Nat) (es es' : List (List D)) (h : UpRows st T es es') : UpOb st T (.arr g n b es) (.arr g n b es')

theorem UpOb.sh {st T : St} {ob ob' : Ob} (h : UpOb st T ob ob') : ShOb ob ob' := by
  cases h with
  | same => cases ob <;> simp [ShOb]
  | arr g n b es es' h => exact ⟨rfl, rfl, rfl, h.spec.1⟩

structure WkSt (st T : St) : Prop where
  len : T.length ≤ st.length
  obs : ∀ (o : Nat) (ob' : Ob), T[o]? = some (some ob') → ∃ ob, st[o]? = some (some ob) ∧ UpOb st T ob ob'
  sc : StSc T.length T

theorem WkSt.kill {st T : St} (h : WkSt st T) : Kill st T := ⟨h.len, fun o ob' e => let ⟨ob, h1, h2⟩ := h.obs o ob' e; ⟨ob, h1, h2.sh⟩⟩

section
variable {w : World} {μ : Mu} {st T : St}

theorem imm_tr {v : Value} {d : D} (h : VR w μ st v d) (hi : d.imm = true) (h1 : v.oneCell' = true) : TR w (own μ st) v d := by
  cases h with
  | any => exact .any _ h1
  | tr h => exact h
  | _ => cases hi

theorem VR.up (hs : Sim w μ st) (hk : Kill st T) {v : Value} {d d' : D} (hu : Up st T d d') (h : VR w μ st v d) (hd : D.sc T.length d') : VR w μ T v d' := by
  induction h generalizing d' with
  | any v => cases hu with
    | any => exact .any _
    | same => exact .any _
  | tr h =>
    cases hu with
    | any => exact .any _
    | same => exact .tr (h.kill hk)
    | nils full n b hb => cases h; exact .tr (.sl full n b [] none 0 0 (fun _ _ => undef) rfl (Nat.le_refl _) (fun _ => rfl) (by simp [top]) hb (fun e he => by cases he) (.inl rfl) (fun i j hi => absurd hi (Nat.not_lt_zero _)))
    | nref full o g n b es hT =>
      cases h
      refine .ref _ full o g 0 0 ⟨none, 0, 0, rfl⟩ (List.getElem?_eq_some_iff.1 hT).1 (by rw [hT]; simp) (fun g' n' b' es' e => ?_) (fun n' b' es' e => ?_)
      · rw [hT] at e; cases e; exact Nat.le_refl _
      · exact ⟨none, 0, rfl, Nat.le_refl _, by omega, fun _ => rfl, .inl rfl⟩
    | full f n b es =>
      cases h.kill hk with
      | sl _ _ _ _ a len cap cv hlen hcap hfull hb hb1 hn ha hc => exact .tr (.sl f n b es a len cap cv hlen hcap (fun _ => hfull rfl) hb hb1 hn ha hc)
    | ref => cases h
    | rfull => cases h
    | agg => cases h
    | tup => cases h
    | cond => cases h
  | agg vs cs hs' hc ih =>
    cases hu with
    | any => exact .any _
    | same => exact VR.kill hk (.agg vs cs hs' hc) hd
    | agg _ cs' hu => exact .agg vs cs' (by rw [hu.len]; exact hs') fun j hj => ih j (by rw [← hu.len]; exact hj) (hu.get j _ hj) (scs_get hd j hj)
  | tup vs cs hs' hc ih =>
    cases hu with
    | any => exact .any _
    | same => exact VR.kill hk (.tup vs cs hs' hc) hd
    | tup _ cs' hu hl =>
      exact .tup vs cs' (fun j hj _ => hs' j (by rw [← hu.len]; exact hj) (List.all_eq_true.1 hl _ (List.getElem_mem _))) fun j hj => ih j (by rw [← hu.len]; exact hj) (hu.get j _ hj) (scs_get hd j hj)
  | fn f vf vc first cap hf hc hfc hcc ih1 ih2 =>
    cases hu with
    | any => exact .any _
    | same => exact VR.kill hk (.fn f vf vc first cap hf hc hfc hcc) hd
  | ref v full o g off len hv ho hr hg h =>
    cases hu with
    | any => exact .any _
    | same => exact VR.kill hk (.ref v full o g off len hv ho hr hg h) hd
    | rfull => exact VR.kill hk (.ref v false o g off len hv ho hr hg fun n b es e => by
        obtain ⟨a, cap, h1, h2, h3, h4, h5⟩ := h n b es e
        exact ⟨a, cap, h1, h2, h3, (fun hf => by cases hf), h5⟩) hd
    | ref _ _ _ _ _ n b es rows hst hT hb hi hrows =>
      subst hrows
      obtain ⟨a, cap, e1, e2, e3, e4, e5⟩ := h n b es hst
      subst e1
      have hA : ArrR w μ st (μ o) n b es := hs.obj o _ hst
      have hlen : ((es.drop off).take len).length = len := by simp; omega
      have hrow : ∀ i (hi : i < ((es.drop off).take len).length), ((es.drop off).take len)[i] = es[off + i]'(by rw [hlen] at hi; omega) := fun i hi => by simp
      rcases hA.loc with ⟨m0, e0⟩ | ⟨blk, base, c, ty, em, hh, hsz, hcell⟩
      · subst e0
        have h0 : len = 0 := by simp at e3; omega
        subst h0
        refine .tr (.sl false n b _ a 0 cap (fun _ _ => undef) (by simp) e2 (fun hf => by cases hf) (by simp) hb (fun e he => by simp at he) (.inl (by simp)) (fun i j hi => by simp at hi))
      · have hcv : ∀ i j, ∃ u, ∀ (hi : i < len) (hj : j < n), c[base + ((off + i) * n + j)]? = some u ∧ TR w (own μ T) u ((es[off + i]'(by omega))[j]'(by rw [hA.hn _ (List.getElem_mem _)]; exact hj)) := fun i j => by
          by_cases hc : i < len ∧ j < n
          · obtain ⟨u, h1, h2, h3⟩ := hcell (off + i) j (by omega) (by rw [hA.hn _ (List.getElem_mem _)]; exact hc.2)
            refine ⟨u, fun _ _ => ⟨h1, ?_⟩⟩
            have himm := hi (es[off + i]'(by omega)) (List.getElem_mem _)
            rw [List.all_eq_true] at himm
            exact (imm_tr h2 (himm _ (List.getElem_mem _)) h3).kill hk
          · exact ⟨undef, fun hi hj => absurd ⟨hi, hj⟩ hc⟩
        have hcv2 : ∃ cv : Nat → Nat → Value, ∀ i j (hi : i < len) (hj : j < n), c[base + ((off + i) * n + j)]? = some (cv i j) ∧ TR w (own μ T) (cv i j) ((es[off + i]'(by omega))[j]'(by rw [hA.hn _ (List.getElem_mem _)]; exact hj)) :=
          ⟨fun i j => Classical.choose (hcv i j), fun i j hi hj => Classical.choose_spec (hcv i j) hi hj⟩
        obtain ⟨cv, hcv⟩ := hcv2
        have hlb : ((es.drop off).take len).length * b ≤ top := by
          rw [hlen]
          exact Nat.le_trans (Nat.mul_le_mul_right b (show len ≤ es.length by omega)) hA.lenb
        have hno : ¬ own μ T blk := by
          rintro ⟨o', ob', base', h1, h2⟩
          obtain ⟨ob, h3, _⟩ := hk.sh o' ob' h1
          have := hs.inj o o' _ _ blk base base' hst h3 em h2
          subst this
          rw [look_get.2 h1] at hT; cases hT
        refine .tr (.sl false n b _ a len cap cv hlen.symm e2 (fun hf => by cases hf) hlb hb ?_ ?_ ?_)
        · intro e he
          obtain ⟨i, hi', e'⟩ := List.getElem_of_mem he
          rw [hrow i hi'] at e'
          rw [← e']; exact hA.hn _ (List.getElem_mem _)
        · by_cases h0 : len = 0
          · subst h0; left; simp
          · right
            rcases e5 with e5 | ⟨blk', base', em', ea, c', ty', hh', hsz'⟩
            · omega
            · rw [em] at em'; cases em'
              have hlt : blk < w.heap.size := by
                rcases Nat.lt_or_ge blk w.heap.size with h | h
                · exact h
                · rw [Array.getElem?_eq_none h] at hh; cases hh
              refine ⟨blk, base + off * n, ea, hlt, hno, fun i j hi' hj => ?_⟩
              rw [hlen] at hi'
              have := (hcv i j hi' hj).1
              simp only [World.cell?, hh]
              rw [show base + off * n + (i * n + j) = base + ((off + i) * n + j) by rw [Nat.add_mul]; omega]
              simpa using this
        · intro i j hi' hj
          have hi2 : i < len := by rw [hlen] at hi'; exact hi'
          have hn2 : (((es.drop off).take len)[i]).length = n := by rw [hrow i hi']; exact hA.hn _ (List.getElem_mem _)
          have := (hcv i j hi2 (by omega)).2
          have e : (((es.drop off).take len)[i])[j] = (es[off + i]'(by omega))[j]'(by rw [hA.hn _ (List.getElem_mem _)]; omega) := by
            have := hrow i hi'
            congr 1
          rw [e]; exact this
  | ptr v o g i c hv ho hr hg h =>
    cases hu with
    | any => exact .any _
    | same => exact VR.kill hk (.ptr v o g i c hv ho hr hg h) hd
  | mp v o hv ho hr h1 h2 =>
    cases hu with
    | any => exact .any _
    | same => exact VR.kill hk (.mp v o hv ho hr h1 h2) hd
  | it v o hv ho hr h =>
    cases hu with
    | any => exact .any _
    | same => exact VR.kill hk (.it v o hv ho hr h) hd
  | cond v g d h h0 ih =>
    cases hu with
    | any => exact .any _
    | same => exact VR.kill hk (.cond v g d h h0) hd
    | cond _ _ d' hu => exact .cond v g d' (fun e => ih e hu (hd e)) h0
end
end Go.Am

/-
  AM, part 33: the rules that say less of what stands.
-/
namespace Go.Am
open Go

section
variable {P : Program} {gl : Gl} {N n0 : Nat} {keep : List Nat} {Q : AQ} {fr : Fr} {st : St} {c : Code} {w : World} {μ : Mu} {T : St}

theorem Sim.wk (hs : Sim w μ st) (hw : WkSt st T) : Sim w μ T := by
  have hk := hw.kill
  refine ⟨fun o ob' h => ?_, fun o1 o2 ob1 ob2 blk b1 b2 h1 h2 m1 m2 => ?_⟩
  · obtain ⟨ob, h1, h2⟩ := hw.obs o ob' h
    have hob := hs.obj o ob h1
    have hsc := hw.sc o ob' h
    cases h2 with
    | same =>
      cases ob' with
      | arr g n b es =>
        obtain ⟨a1, a2, a3⟩ := (hob : ArrR w μ st (μ o) n b es)
        refine (⟨a1, a2, ?_⟩ : ArrR w μ T (μ o) n b es)
        rcases a3 with a3 | ⟨blk, base, cc, ty, em, hh, hsz, hc⟩
        · exact .inl a3
        · exact .inr ⟨blk, base, cc, ty, em, hh, hsz, fun i j hi hj => let ⟨v, e, hv, h1⟩ := hc i j hi hj; ⟨v, e, hv.kill hk (scs_get (hsc _ (List.getElem_mem hi)) j hj), h1⟩⟩
      | mps ag es =>
        obtain ⟨blk, ents, clock, em, hh, hsz, hc⟩ := (hob : MapR _ ag w μ _ (μ o) es).loc
        refine (⟨⟨blk, ents, clock, em, hh, hsz, fun i hi => ?_⟩⟩ : MapR _ ag w μ T (μ o) es)
        obtain ⟨e, e1, e2, e3⟩ := hc i hi
        refine ⟨e, e1, e2, ?_⟩
        have hsc' := hsc _ (List.getElem_mem hi)
        cases ag with
        | true => exact VR.kill hk e3 hsc'
        | false => obtain ⟨d, a, b⟩ := e3; rw [a] at hsc'; exact ⟨d, a, b.kill hk hsc'.1⟩
      | mpi ag k es =>
        obtain ⟨blk, ents, clock, em, hh, hsz, hc⟩ := (hob : MapR _ ag w μ _ (μ o) es).loc
        refine (⟨⟨blk, ents, clock, em, hh, hsz, fun i hi => ?_⟩⟩ : MapR _ ag w μ T (μ o) es)
        obtain ⟨e, e1, e2, e3⟩ := hc i hi
        refine ⟨e, e1, e2, ?_⟩
        have hsc' := hsc _ (List.getElem_mem hi)
        cases ag with
        | true => exact VR.kill hk e3 hsc'
        | false => obtain ⟨d, a, b⟩ := e3; rw [a] at hsc'; exact ⟨d, a, b.kill hk hsc'.1⟩
      | sit => exact hob
      | resv => exact hob
    | arr g n b es es' hu =>
      obtain ⟨u1, u2⟩ := hu.spec
      obtain ⟨a1, a2, a3⟩ := (hob : ArrR w μ st (μ o) n b es)
      refine (⟨by rw [u1]; exact a1, fun e he => ?_, ?_⟩ : ArrR w μ T (μ o) n b es')
      · obtain ⟨i, hi, e1⟩ := List.getElem_of_mem he
        rw [← e1, (u2 i (by omega) hi).len]
        exact a2 _ (List.getElem_mem _)
      · rcases a3 with ⟨a3, a4⟩ | ⟨blk, base, cc, ty, em, hh, hsz, hc⟩
        · subst a4; left; exact ⟨a3, List.eq_nil_of_length_eq_zero (by simpa using u1)⟩
        · refine .inr ⟨blk, base, cc, ty, em, hh, by rw [u1]; exact hsz, fun i j hi hj => ?_⟩
          have hu' := u2 i (by omega) hi
          obtain ⟨v, e, hv, h1⟩ := hc i j (by omega) (by rw [← hu'.len]; exact hj)
          exact ⟨v, e, VR.up hs hk (hu'.get j _ hj) hv (scs_get (hsc _ (List.getElem_mem hi)) j hj), h1⟩
  · obtain ⟨ob1', e1, _⟩ := hw.obs o1 ob1 h1
    obtain ⟨ob2', e2, _⟩ := hw.obs o2 ob2 h2
    exact hs.inj o1 o2 _ _ blk b1 b2 e1 e2 m1 m2

theorem ObStep.sh {w' : World} {m m' : Option (Nat × Nat)} {a ob ob' : Ob} (h : ObStep w w' m m' a ob) (hs : ShOb ob ob') : ObStep w w' m m' a ob' := by
  cases ob <;> cases ob' <;> first | exact hs.elim | skip
  · obtain ⟨rfl, rfl, rfl, e⟩ := hs
    cases a <;> first | exact h | skip
    refine ⟨h.1, fun hg => ?_⟩
    obtain ⟨a1, a2, a3, a4, a5⟩ := h.2 hg
    exact ⟨a1, a2, by rw [e]; exact a3, a4, a5⟩
  · cases a <;> first | exact h | skip
    exact ⟨h.1.trans (Eq.symm hs), h.2⟩
  · cases a <;> first | exact h | skip
    exact ⟨h.1.trans hs.1.symm, h.2.1.trans hs.2.symm, h.2.2⟩
  · cases a <;> exact h
  · exact h

theorem Step.wk {w0 : World} {μ0 : Mu} {st0 : St} (hl : st0.length ≤ T.length) (hw : WkSt st T) (h : Step w0 μ0 st0 w μ st) : Step w0 μ0 st0 w μ T where
  size := h.size
  os := h.os
  output := h.output
  tape := h.tape
  imm := h.imm
  own := fun blk hb => h.own blk (hw.kill.own hb)
  len := hl
  keep := fun o ob' ho h1 => by
    obtain ⟨ob, e1, e2⟩ := hw.obs o ob' h1
    obtain ⟨a, a1, a2⟩ := h.keep o ob ho e1
    exact ⟨a, a1, a2.sh e2.sh⟩

def FrUp (st T : St) (fr : Fr) : Fr → Prop
  | [] => True
  | (t, d) :: r => Up st T (fr.get t) d ∧ FrUp st T fr r
theorem FrUp.get : ∀ {F : Fr}, FrUp st T fr F → ∀ t, Up st T (fr.get t) (F.get t)
  | [], _, _ => .any _
  | (k, d) :: r, h, t => by
    simp only [Fr.get]
    split
    · rename_i e; subst e; exact h.1
    · exact h.2.get t

/-- what stands may be taken for the slots F and the store T -/
structure Bk (n0 : Nat) (F : Fr) (T : St) (fr : Fr) (st : St) : Prop where
  len : n0 ≤ T.length
  wk : WkSt st T
  up : FrUp st T fr F
  sc : Fr.sc T.length F

theorem awp_bk {F : Fr} (hb : Bk n0 F T fr st) (h : AWp P gl N n0 keep c Q F T) : AWp P gl N n0 keep c Q fr st :=
  fun w0 μ0 st0 hl0 a w ⟨μ, hc⟩ => h w0 μ0 st0 hl0 a w ⟨μ, hc.sim.wk hb.wk, glob_of hc.glob (fun _ h => hb.wk.kill.own h),
    fun t => VR.up hc.sim hb.wk.kill (hb.up.get t) (hc.fr t) (Fr.sc_get F hb.sc t), hc.size, hc.defers, Step.wk (by rw [hl0]; exact hb.len) hb.wk hc.step⟩

theorem awp_iter (n : Nat) (I : Nat → Prop) (F : Nat → Fr) (T : Nat → St) (hstep : ∀ k, k < n → I k → AWp P gl N n0 keep c (AQ.then (fun fr st => I (k + 1) ∧ Bk n0 (F (k + 1)) (T (k + 1)) fr st) Q) (F k) (T k))
    (hend : I n → AWp P gl N n0 keep c (AQ.then (fun _ _ => False) Q) (F n) (T n)) (h0 : I 0 ∧ Bk n0 (F 0) (T 0) fr st) : AWp P gl N n0 keep (.loop c) Q fr st := by
  refine awp_bk h0.2 ?_
  have key : ∀ m k, k + m = n → I k → AWp P gl N n0 keep (.loop c) Q (F k) (T k) := by
    intro m
    induction m with
    | zero =>
      intro k hk hI
      have : k = n := by omega
      subst this
      refine awp_loop (awp_mono (hend hI) fun e fr st hq => ?_)
      cases e with
      | normal => exact hq.elim
      | _ => exact hq
    | succ m ih =>
      intro k hk hI
      refine awp_loop (awp_mono (hstep k (by omega) hI) fun e fr st hq => ?_)
      cases e with
      | normal => exact awp_bk hq.2 (ih (k + 1) (by omega) hq.1)
      | _ => exact hq
  exact key n 0 (by omega) h0.1

/-- the end of a body: what stands, and the value, may be taken for something that does -/
def fin (n0 : Nat) (R : D → St → Prop) (d : D) (st : St) : Prop := ∃ T d', n0 ≤ T.length ∧ WkSt st T ∧ Up st T d d' ∧ D.sc T.length d' ∧ R d' T
@[congr] theorem fin_congr {n : Nat} {st st' : St} {R : D → St → Prop} {d d' : D} (h : d = d') (h2 : st = st') : fin n R d st = fin n R d' st' := by rw [h, h2]

def finQ (P : Program) (rs : List ResultVar) (n0 : Nat) (R : D → St → Prop) : AQ
  | .exit _, _, _ => False
  | _, fr, st => rsOk P fr st rs ∧ fin n0 R (rsD P fr st rs) st

theorem spec_fn {f : FuncId} {fn : Func} {c : Code} {args : List D} {R : D → St → Prop} {rs : List ResultVar} (keep : List Nat) (hf : P.funcs[f]? = some fn) (hb : fn.body = some c) (hN : fn.ntmps = N) (hr : fn.results.toList = rs)
    (hname : (fn.name != "runtime.NumGoroutine") = true) (hlen : Nat.ble args.length N = true)
    (h : StSc st.length st → AWp P gl N st.length keep c (finQ P rs st.length R) (argFr 0 args) st) : Spec P gl f args st R := by
  subst hN hr
  have hlen := Nat.le_of_ble_eq_true hlen
  refine ⟨by rw [hf]; simp [hb, hname], fun w μ vs hs hg hsz hvs => ?_⟩
  refine calls_of_wp hf hb ?_
  have hc : Conc gl fn.ntmps w μ st (argFr 0 args) st { tmps := vs ++ Array.replicate (fn.ntmps - vs.size) undef, defers := [] } w μ := by
    refine ⟨hs, hg, fun t => ?_, by simp; omega, rfl, Step.refl _ _ _⟩
    rw [argFr_get]
    split
    · rename_i ht
      have hts : t < vs.size := by rw [hsz]; omega
      have := hvs t (by omega)
      rw [Array.getD_eq_getD_getElem?, Array.getElem?_append_left hts, ← Array.getD_eq_getD_getElem?]
      simpa using this
    · exact .any _
  refine wp_mono (h hs.sc w μ st rfl _ w ⟨μ, hc⟩) fun e a' w' hq => ?_
  have fin : ∀ fr' st', finQ P fn.results.toList st.length R .ret fr' st' → ConcE gl fn.ntmps w μ st fr' st' a' w' → a'.defers = [] ∧ ∃ v, (results fn a'.tmps).run P w' = .ok v w' ∧
      ∃ v' d st'' μ', Ending.returned v = .returned v' ∧ R d st'' ∧ Sim w' μ' st'' ∧ Step w μ st w' μ' st'' ∧ VR w' μ' st'' v' d := by
    rintro fr' st' ⟨hrok, T, d', hle, hw, hu, hsc, hR⟩ ⟨μ', hc'⟩
    obtain ⟨v, h1, h2⟩ := res_sound hc'.sim hc'.fr (rsOk_all _ hrok)
    exact ⟨hc'.defers, v, h1, v, d', T, μ', rfl, hR, hc'.sim.wk hw, Step.wk hle hw hc'.step, VR.up hc'.sim hw.kill hu h2 hsc⟩
  cases e with
  | normal => obtain ⟨fr', st', h1, h2⟩ := hq; exact fin fr' st' h1 h2
  | ret => obtain ⟨fr', st', h1, h2⟩ := hq; exact fin fr' st' h1 h2
  | exit id => obtain ⟨fr', st', h1, h2⟩ := hq; exact h1.elim
  | goto => exact hq.elim
  | panic => exact hq.elim
  | outgrown => exact hq.elim

/-! ### stores that are written out -/

inductive UpL (st T : St) : St → St → Prop
  | nil (l : St) : UpL st T l []
  | dead (x : Option Ob) (l l' : St) (h : UpL st T l l') : UpL st T (x :: l) (none :: l')
  | live (ob ob' : Ob) (l l' : St) (h : UpOb st T ob ob') (hl : UpL st T l l') : UpL st T (some ob :: l) (some ob' :: l')

theorem UpL.len : ∀ {l l' : St}, UpL st T l l' → l'.length ≤ l.length
  | _, _, .nil _ => Nat.zero_le _
  | _, _, .dead _ _ _ h => by simp [h.len]
  | _, _, .live _ _ _ _ _ h => by simp [h.len]
theorem UpL.get : ∀ {l l' : St}, UpL st T l l' → ∀ (j : Nat) (ob' : Ob), l'[j]? = some (some ob') → ∃ ob, l[j]? = some (some ob) ∧ UpOb st T ob ob'
  | _, _, .nil _, j, ob', h => by simp at h
  | _, _, .dead _ _ _ h, 0, ob', e => by simp at e
  | _, _, .dead _ _ _ h, j + 1, ob', e => by simpa using h.get j ob' (by simpa using e)
  | _, _, .live ob ob2 _ _ h _, 0, ob', e => by simp at e; subst e; exact ⟨ob, rfl, h⟩
  | _, _, .live _ _ _ _ _ h, j + 1, ob', e => by simpa using h.get j ob' (by simpa using e)

def ScL (n : Nat) : St → Prop
  | [] => True
  | none :: l => ScL n l
  | some ob :: l => ob.sc n ∧ ScL n l
theorem ScL.get {n : Nat} : ∀ {l : St}, ScL n l → ∀ (j : Nat) (ob : Ob), l[j]? = some (some ob) → ob.sc n
  | none :: l, h, 0, ob, e => by simp at e
  | some a :: l, h, 0, ob, e => by simp at e; subst e; exact h.1
  | none :: l, h, j + 1, ob, e => ScL.get (l := l) h j ob (by simpa using e)
  | some a :: l, h, j + 1, ob, e => ScL.get (l := l) h.2 j ob (by simpa using e)

end

mutual
theorem D.sc_le {n m : Nat} (h : n ≤ m) : ∀ (d : D), D.sc n d → D.sc m d
  | .agg cs, hd => D.scs_le h cs hd
  | .tup cs, hd => D.scs_le h cs hd
  | .fn _ a b, hd => ⟨D.scs_le h a hd.1, D.scs_le h b hd.2⟩
  | .ref _ o _ _ _, hd => (Nat.lt_of_lt_of_le hd h : o < m)
  | .ptr o _ _ _, hd => (Nat.lt_of_lt_of_le hd h : o < m)
  | .mp o, hd => (Nat.lt_of_lt_of_le hd h : o < m)
  | .it o, hd => (Nat.lt_of_lt_of_le hd h : o < m)
  | .cond _ d, hd => fun e => D.sc_le h d (hd e)
  | .any, _ => trivial
  | .bool _, _ => trivial
  | .int _ _, _ => trivial
  | .str _, _ => trivial
  | .nilp, _ => trivial
  | .nils, _ => trivial
  | .nilf, _ => trivial
  | .nilm, _ => trivial
  | .sl _ _ _ _, _ => trivial
  | .iptr _, _ => trivial
theorem D.scs_le {n m : Nat} (h : n ≤ m) : ∀ (l : List D), D.scs n l → D.scs m l
  | [], _ => trivial
  | d :: l, hd => ⟨D.sc_le h d hd.1, D.scs_le h l hd.2⟩
end

theorem Ob.sc_le {n m : Nat} (h : n ≤ m) {ob : Ob} (hs : ob.sc n) : ob.sc m := by
  cases ob with
  | arr => exact fun e he => D.scs_le h _ (hs e he)
  | mps => exact fun e he => D.scs_le h _ (hs e he)
  | mpi => exact fun e he => D.scs_le h _ (hs e he)
  | sit => trivial
  | resv => trivial

theorem imm_sc {d : D} (h : d.imm = true) (n : Nat) : D.sc n d := by cases d <;> first | trivial | cases h
theorem Imm.sc {rows : List (List D)} (h : Imm rows) (n : Nat) : ∀ e ∈ rows, D.scs n e := fun e he =>
  scs_of fun j hj => imm_sc (List.all_eq_true.1 (h e he) _ (List.getElem_mem _)) n

/-- old objects stay; of the new ones, what l' says -/
theorem wk_of {s l l' : St} (hs : StSc s.length s) (hu : UpL (s ++ l) (s ++ l') l l') (hl : ScL (s ++ l').length l') : WkSt (s ++ l) (s ++ l') := by
  refine ⟨by simp; exact hu.len, fun o ob' h => ?_, fun o ob' h => ?_⟩
  · rcases Nat.lt_or_ge o s.length with ho | ho
    · rw [List.getElem?_append_left ho] at h
      exact ⟨ob', by rw [List.getElem?_append_left ho]; exact h, .same _⟩
    · rw [List.getElem?_append_right ho] at h
      obtain ⟨ob, h1, h2⟩ := hu.get _ _ h
      exact ⟨ob, by rw [List.getElem?_append_right ho]; exact h1, h2⟩
  · rcases Nat.lt_or_ge o s.length with ho | ho
    · rw [List.getElem?_append_left ho] at h
      exact Ob.sc_le (by simp) (hs o ob' h)
    · rw [List.getElem?_append_right ho] at h
      exact hl.get _ _ h
/-- nothing new stays -/
theorem wk_old {s l : St} (hs : StSc s.length s) : WkSt (s ++ l) s := by
  have := wk_of (l := l) (l' := []) hs (.nil l) trivial
  rwa [List.append_nil] at this
theorem wk_same {s : St} (hs : StSc s.length s) : WkSt s s := by
  have := wk_old (l := []) hs
  rwa [List.append_nil] at this

end Go.Am

/-
  AM, part 34: calls with less told of the arguments; a place for a slice that is still nil.
-/
namespace Go.Am
open Go

section
variable {P : Program} {gl : Gl} {N n0 : Nat} {keep : List Nat} {Q : AQ} {fr : Fr} {st : St} {c : Code} {w : World} {μ : Mu} {T : St}

theorem Kill.refl (st : St) : Kill st st := ⟨Nat.le_refl _, fun o ob h => ⟨ob, h, by cases ob <;> simp [ShOb]⟩⟩

theorem Spec.up {f : FuncId} {args args' : List D} {R : D → St → Prop} (h : Spec P gl f args' st R) (hu : Ups st st args args') (hsc : D.scs st.length args') : Spec P gl f args st R :=
  ⟨h.1, fun w μ vs h1 h2 h3 h4 => h.2 w μ vs h1 h2 (h3.trans hu.len.symm) fun j hj => VR.up h1 (Kill.refl st) (hu.get j (by rw [← hu.len]; exact hj) hj) (h4 j (by rw [← hu.len]; exact hj)) (scs_get hsc j hj)⟩

theorem Pure.up {f : FuncId} {args args' : List D} {r : D} (h : Pure P gl f args' r) (hu : ∀ st, Ups st st args args') (hi : args'.all D.imm = true ∨ ∀ n, D.scs n args') : Pure P gl f args r := fun st =>
  (h st).up (hu st) (hi.elim (fun hi => scs_of fun j _ => imm_sc (List.all_eq_true.1 hi _ (List.getElem_mem _)) _) (fun h => h _))

/-- an array object of no elements, in no block -/
theorem sim_ph (hs : Sim w μ st) (n b : Nat) :
    Sim w (upd μ st.length none) (st ++ [some (.arr 0 n b [])]) ∧ Step w μ st w (upd μ st.length none) (st ++ [some (.arr 0 n b [])]) := by
  have look : ∀ o ob, (st ++ [some (Ob.arr 0 n b [])])[o]? = some (some ob) → (o < st.length ∧ st[o]? = some (some ob)) ∨ (o = st.length ∧ ob = .arr 0 n b []) := by
    intro o ob h
    rcases Nat.lt_or_ge o st.length with hl | hl
    · rw [List.getElem?_append_left hl] at h; exact .inl ⟨hl, h⟩
    · rw [List.getElem?_append_right hl] at h
      have : o - st.length = 0 := by
        rcases Nat.eq_zero_or_pos (o - st.length) with h0 | h0
        · exact h0
        · rw [List.getElem?_eq_none (by simp; omega)] at h; cases h
      rw [this] at h
      simp at h
      exact .inr ⟨by omega, h.symm⟩
  have step : Step w μ st w (upd μ st.length none) (st ++ [some (.arr 0 n b [])]) := by
    refine ⟨Nat.le_refl _, rfl, rfl, rfl, fun _ _ _ => rfl, fun blk hw => ?_, by simp, fun o ob hl h => ?_⟩
    · obtain ⟨o, ob, base, h, hm⟩ := hw
      rcases look o ob h with ⟨hl, h⟩ | ⟨e, _⟩
      · rw [upd_other μ _ _ (by omega)] at hm; exact .inl ⟨o, ob, base, h, hm⟩
      · subst e; rw [upd_same] at hm; cases hm
    · rw [List.getElem?_append_left hl] at h
      refine ⟨ob, h, ?_⟩
      rw [upd_other μ _ _ (by omega)]
      exact ObStep.refl _ _ _
  refine ⟨⟨fun o ob h => ?_, fun o1 o2 ob1 ob2 blk b1 b2 h1 h2 m1 m2 => ?_⟩, step⟩
  · rcases look o ob h with ⟨hl, h⟩ | ⟨e, e2⟩
    · rw [upd_other μ _ _ (by omega)]
      exact (hs.obj o ob h).step step (fun _ _ _ => rfl)
    · subst e; subst e2
      exact (⟨by simp [top], fun e he => (by cases he), .inl ⟨upd_same _ _ _, rfl⟩⟩ : ArrR w _ _ _ n b [])
  · rcases look o1 ob1 h1 with ⟨l1, h1⟩ | ⟨e, _⟩
    · rcases look o2 ob2 h2 with ⟨l2, h2⟩ | ⟨e, _⟩
      · rw [upd_other μ _ _ (by omega)] at m1 m2
        exact hs.inj _ _ _ _ _ _ _ h1 h2 m1 m2
      · subst e; rw [upd_same] at m2; cases m2
    · subst e; rw [upd_same] at m1; cases m1

theorem awp_ph (n b : Nat) (h : AWp P gl N n0 keep c Q fr (st ++ [some (.arr 0 n b [])])) : AWp P gl N n0 keep c Q fr st :=
  fun w0 μ0 st0 hl0 a w ⟨_, hc⟩ => h w0 μ0 st0 hl0 a w (let ⟨k1, k2⟩ := sim_ph hc.sim n b; ⟨_, k1, hc.glob.step k2, hc.fr.step k2, hc.size, hc.defers, hc.step.trans k2⟩)

theorem up_sl0 {n b : Nat} (hb : 1 ≤ b) : ∀ st T, Up st T .nils (.sl false n b []) := fun _ _ => .nils _ _ _ hb

/-- the end, where nothing new stays -/
theorem fin_old {s l : St} {d d' : D} {R : D → St → Prop} (hsc : StSc s.length s) (hu : Up (s ++ l) s d d') (hd : d'.imm = true) (h : R d' s) : fin s.length R d (s ++ l) :=
  ⟨s, d', Nat.le_refl _, wk_old hsc, hu, imm_sc hd _, h⟩
theorem fin_old' {s l : St} {d d' : D} {R : D → St → Prop} (hsc : StSc s.length s) (hu : Up (s ++ l) s d d') (hd : D.sc s.length d') (h : R d' s) : fin s.length R d (s ++ l) :=
  ⟨s, d', Nat.le_refl _, wk_old hsc, hu, hd, h⟩
theorem fin_same {s : St} {d : D} {R : D → St → Prop} (hsc : StSc s.length s) (hd : D.sc s.length d) (h : R d s) : fin s.length R d s :=
  ⟨s, d, Nat.le_refl _, wk_same hsc, .same _, hd, h⟩

end
theorem get_new {s t : St} {k : Nat} : (s ++ t)[s.length + k]? = t[k]? := by
  rw [List.getElem?_append_right (by omega)]; congr 1; omega
theorem look_out {s : St} {k : Nat} : look s (s.length + k) = none := by
  unfold look; rw [List.getElem?_eq_none (by omega)]; rfl

attribute [go_sem] finQ
end Go.Am

/-
  AM, part 35: is a slice nil? Where it is read as a list, either answer may come.
-/
namespace Go.Am
open Go

section
variable {P : Program} {gl : Gl} {N n0 : Nat} {keep : List Nat} {Q : AQ} {fr : Fr} {st : St}

theorem run_isnil {w : World} {t e : TypeId} (hu : P.underlying t = some (.slice e)) (a : Option Addr) (l c : Nat) (ox oy : Operand) :
    (do eqGuard .eql t ox oy (.slice a l c) (.slice none 0 0); binOp .eql t (.slice a l c) (.slice none 0 0) : Sem Value).run P w = .ok (.bool a.isNone) w := by
  have h1 : (eqGuard .eql t ox oy (.slice a l c) (.slice none 0 0)).run P w = .ok () w := by unfold eqGuard; simp
  have h2' : ∀ d, (Op.equalIn (d + 1) t (.slice a l c) (.slice none 0 0)).run P w = .ok a.isNone w := fun d => by
    cases a <;> simp [Op.equalIn, run_underlying hu]
  have h2 : (Op.equalIn 10000 t (.slice a l c) (.slice none 0 0)).run P w = .ok a.isNone w := h2' 9999
  simp only [Sem.run_bind, h1, Result.andThen_ok, binOp, Op.equal, Op.maxDepth, h2]
  rfl

theorem awp_isnil {id : Nat} {x a b : Nat} {t : TypeId} {ty1 ty2 ty3 : TypeId} {p1 p2 : String} {e1 e2 : Array Edge} {f : Bool} {n bb : Nat} {es : List (List D)}
    (hx : fr.get x = .sl f n bb es) (hk : ∃ e, (tinfo P t).k = .slice e) (ha : a < N) (hb : b < N)
    (h : ∀ c : Bool, (c = true → es = []) → Q .normal (Fr.only keep ((fr.put a (.sl f n bb es)).put b (.bool c))) st) :
    AWp P gl N n0 keep (.region id #[⟨some a, .move (.tmp x), ty1, p1, e1, none⟩, ⟨some b, .binOp .eql t (.tmp a) (.const (.slice none 0 0)) ty3, ty2, p2, e2, none⟩] false) Q fr st := by
  intro w0 μ0 st0 hl act w ⟨μ, hc⟩
  obtain ⟨e, hk⟩ := hk
  have hu := k_slice hk
  refine wp_region ?_
  have hr : List.range 2 = [0, 1] := rfl
  show wpOps P _ _ (List.range 2) act w
  rw [hr, wpOps_cons]
  obtain ⟨nx, v, w', μ', h1, h2, h3⟩ := conc_opq (P := P) (q := 0) (o := ⟨some a, .move (.tmp x), ty1, p1, e1, none⟩) hc (by simp only [aop, eok, ev, hx, stripOk]) ha (fun h => by cases h)
  have hd : (aop P gl true (.move (.tmp x)) fr (look st) 0).d = .sl f n bb es := by simp only [aop, ev1, ev, hx, strip]
  have hst : (aop P gl true (.move (.tmp x)) fr (look st) 0).app 0 st = st := rfl
  simp only [hst, hd] at h3
  have second : wpOps P #[⟨some a, .move (.tmp x), ty1, p1, e1, none⟩, ⟨some b, .binOp .eql t (.tmp a) (.const (.slice none 0 0)) ty3, ty2, p2, e2, none⟩] (cq gl N w0 μ0 st0 Q) [1] (act.put (some a) v) w' := by
    rw [wpOps_cons]
    have hva := h3.fr a
    simp only [Fr.putO, Fr.get_put, if_pos] at hva
    have hv : ∃ ad l c, (act.put (some a) v).tmps.getD a undef = .slice ad l c ∧ (ad = none → es = []) := by
      generalize (act.put (some a) v).tmps.getD a undef = u at hva
      cases hva with
      | tr h => cases h with
        | sl _ _ _ _ ad len cap cv _ _ _ _ _ _ ha' _ =>
          refine ⟨ad, len, cap, rfl, fun e => ?_⟩
          rcases ha' with h | ⟨_, _, h, _⟩
          · exact h
          · rw [e] at h; cases h
    obtain ⟨ad, l, c, hv1, hv2⟩ := hv
    have hrun := run_isnil (w := w') hu ad l c (.tmp a) (.const (.slice none 0 0))
    have hex : (execOp (act.put (some a) v).eval ⟨some b, .binOp .eql t (.tmp a) (.const (.slice none 0 0)) ty3, ty2, p2, e2, none⟩).run P w' = .ok (.value (.bool ad.isNone)) w' := by
      have e1 : (act.put (some a) v).eval (.tmp a) = .slice ad l c := hv1
      have : execOp (act.put (some a) v).eval ⟨some b, .binOp .eql t (.tmp a) (.const (.slice none 0 0)) ty3, ty2, p2, e2, none⟩ =
        (do pure (.value (← (do eqGuard .eql t (.tmp a) (.const (.slice none 0 0)) ((act.put (some a) v).eval (.tmp a)) (.slice none 0 0); binOp .eql t ((act.put (some a) v).eval (.tmp a)) (.slice none 0 0) : Sem Value)))) := rfl
      rw [this, e1, Sem.run_bind, hrun]; rfl
    have hconc : Conc gl N w0 μ0 st0 ((fr.put a (.sl f n bb es)).putO (some b) (.bool ad.isNone)) st ((act.put (some a) v).put (some b) (.bool ad.isNone)) w' μ' :=
      ⟨h3.sim, h3.glob, h3.fr.put (mk_bool _ _ _ _) (by rw [h3.size]; exact hb), by simp [Act.put, h3.size]; exact hc.size, by simpa [Act.put] using h3.defers, h3.step⟩
    simp only [wpOp, List.getElem?_toArray, List.getElem?_cons_succ, List.getElem?_cons_zero, Region.wanted, if_true]
    left
    unfold Oper.wp
    rw [hex]
    exact ⟨_, _, h ad.isNone (fun e => hv2 (by simpa using e)), μ', hconc.sim, hconc.glob, hconc.fr.only keep, hconc.size, hconc.defers, hconc.step⟩
  simp only [wpOp, List.getElem?_toArray, List.getElem?_cons_succ, List.getElem?_cons_zero, Region.wanted, if_true]
  left
  unfold Oper.wp
  rw [h1]
  rcases h2 with rfl | ⟨rfl, rfl⟩ <;> exact second
end

theorem ink_of {n : Int} (h0 : -140737488355328 ≤ n) (h : n ≤ 281474976710656) : InK .i64 n := by
  unfold InK
  simp only [IntKind.min, IntKind.max, IntKind.bits, IntKind.signed]
  simp
  omega
end Go.Am

/-
  AM, part 37: what the printed walks lean on: the words of the mirrors, and the rules that follow them.
-/
namespace Go.Am
open Go

/-! ### the words of the mirrors -/

def wr (k : IntKind) (n : Int) : Int := k.wrap n
def get {α : Type} [Inhabited α] (l : List α) (k : Nat) : α := l.getD k default

def chk {α : Type} (p : Prop) [Decidable p] (x : Option α) : Option α := if p then x else none
def letM {α β : Type} (a : α) (f : α → Option β) : Option β := f a
def gd {α : Type} (G : Bool) (x : Option α) (d : α) : Option α := bif G then x else some d

inductive Ctl (ρ σ τ : Type) where
  | nxt (s : σ)
  | brk (t : τ)
  | ret (x : ρ)
inductive Ex (ρ τ : Type) where
  | nxt (t : τ)
  | ret (x : ρ)

def thenM {ρ τ : Type} (x : Option (Ex ρ τ)) (k : τ → Option ρ) : Option ρ :=
  match x with
  | none => none
  | some (.nxt t) => k t
  | some (.ret r) => some r
/-- at most n rounds -/
def loopM {ρ σ τ : Type} (body : σ → Option (Ctl ρ σ τ)) : Nat → σ → Option (Ex ρ τ)
  | 0, _ => none
  | n + 1, s => match body s with
    | none => none
    | some (.nxt s') => loopM body n s'
    | some (.brk t) => some (.nxt t)
    | some (.ret x) => some (.ret x)
def rangeGo {ρ σ : Type} (body : Nat → σ → Option (Ctl ρ σ σ)) : Nat → Nat → σ → Option (Ex ρ σ)
  | 0, _, s => some (.nxt s)
  | m + 1, k, s => match body k s with
    | none => none
    | some (.nxt s') => rangeGo body m (k + 1) s'
    | some (.brk s') => some (.nxt s')
    | some (.ret x) => some (.ret x)
/-- rounds 0 to n - 1 -/
def rangeM {ρ σ : Type} (body : Nat → σ → Option (Ctl ρ σ σ)) (n : Nat) (s : σ) : Option (Ex ρ σ) := rangeGo body n 0 s

section
variable {α β ρ σ τ : Type}
theorem chk_some {p : Prop} [Decidable p] {x : Option α} {e : α} (h : chk p x = some e) : p ∧ x = some e := by
  unfold chk at h
  split at h
  · rename_i hp; exact ⟨hp, h⟩
  · cases h
theorem chk_pos {p : Prop} [Decidable p] {x : Option α} (hp : p) : chk p x = x := if_pos hp
theorem let_some {a : α} {f : α → Option β} {e : β} (h : letM a f = some e) : ∃ y, y = a ∧ f y = some e := ⟨a, rfl, h⟩
theorem bind_some {x : Option α} {f : α → Option β} {e : β} (h : x.bind f = some e) : ∃ v, x = some v ∧ f v = some e := Option.bind_eq_some_iff.1 h
theorem cond_t {c : Bool} {a b : Option α} {e : α} (h : (bif c then a else b) = some e) (hc : c = true) : a = some e := by subst hc; exact h
theorem cond_f {c : Bool} {a b : Option α} {e : α} (h : (bif c then a else b) = some e) (hc : c = false) : b = some e := by subst hc; exact h
theorem gd_t {G : Bool} {x : Option α} {d v : α} (h : gd G x d = some v) (hG : G = true) : x = some v := by subst hG; exact h
theorem gd_f {G : Bool} {x : Option α} {d v : α} (h : gd G x d = some v) (hG : G = false) : v = d := by subst hG; cases h; rfl
end

/-! ### rows -/

def rows {α : Type} (E : α → List D) (l : List α) : List (List D) := l.map E
/-- a sound way to write an element as cells -/
class EncOk {α : Type} (E : α → List D) (n : outParam Nat) : Prop where
  len : ∀ x, (E x).length = n
  one : ∀ x, (E x).all D.one = true
  imm : ∀ x, (E x).all D.imm = true

def i64c (x : Int) : List D := [.int .i64 x]
def u64c (x : Int) : List D := [.int .u64 x]
def i32c (x : Int) : List D := [.int .i32 x]
def u8c (x : Int) : List D := [.int .u8 x]
def boolc (x : Bool) : List D := [.bool x]
def strc (x : Bs) : List D := [.str x]
def slc {α : Type} (n b : Nat) (E : α → List D) (x : List α) : List D := [.sl false n b (rows E x)]
instance : EncOk i64c 1 := ⟨fun _ => rfl, fun _ => rfl, fun _ => rfl⟩
instance : EncOk u64c 1 := ⟨fun _ => rfl, fun _ => rfl, fun _ => rfl⟩
instance : EncOk i32c 1 := ⟨fun _ => rfl, fun _ => rfl, fun _ => rfl⟩
instance : EncOk u8c 1 := ⟨fun _ => rfl, fun _ => rfl, fun _ => rfl⟩
instance : EncOk boolc 1 := ⟨fun _ => rfl, fun _ => rfl, fun _ => rfl⟩
instance : EncOk strc 1 := ⟨fun _ => rfl, fun _ => rfl, fun _ => rfl⟩
instance {α : Type} {n b : Nat} {E : α → List D} : EncOk (slc n b E) 1 := ⟨fun _ => rfl, fun _ => rfl, fun _ => rfl⟩

section
variable {α : Type} {E : α → List D} {n : Nat}
theorem rows_len (l : List α) : (rows E l).length = l.length := by simp [rows]
theorem rows_nil : rows E [] = [] := rfl
theorem rows_co (x : α) (l : List α) : rows E (x :: l) = E x :: rows E l := rfl
theorem rows_app (l m : List α) : rows E l ++ rows E m = rows E (l ++ m) := by simp [rows]
theorem rows_snoc (l : List α) (x : α) : rows E l ++ [E x] = rows E (l ++ [x]) := by simp [rows]
theorem rows_take (l : List α) (k : Nat) : (rows E l).take k = rows E (l.take k) := by simp [rows, List.map_take]
theorem rows_drop (l : List α) (k : Nat) : (rows E l).drop k = rows E (l.drop k) := by simp [rows, List.map_drop]
theorem rows_set (l : List α) (k : Nat) (x : α) : (rows E l).set k (E x) = rows E (l.set k x) := by simp [rows]
theorem rows_rep (m : Nat) (x : α) : List.replicate m (E x) = rows E (List.replicate m x) := by simp [rows]
theorem take_self (l : List α) : l.take l.length = l := List.take_length
theorem rows_getD [Inhabited α] (l : List α) (k : Nat) : (rows E l).getD k (E default) = E (get l k) := by
  simp only [rows, List.getD_eq_getElem?_getD, get, List.getElem?_map]
  cases l[k]? <;> rfl
theorem rows_get [Inhabited α] {l : List α} {k : Nat} {d : List D} (h : k < l.length) : (rows E l).getD k d = E (get l k) := by
  simp [rows, get, h]
theorem rows_imm [h : EncOk E n] (l : List α) : Imm (rows E l) := by
  intro e he
  obtain ⟨s, _, rfl⟩ := List.mem_map.1 he
  exact h.imm s
theorem rows_scs [h : EncOk E n] (l : List α) (m : Nat) : (∀ e ∈ rows E l, D.scs m e) = True := eq_true (Imm.sc (rows_imm l) m)
theorem i64c_eq (x : Int) : i64c x = [.int .i64 x] := rfl
theorem u64c_eq (x : Int) : u64c x = [.int .u64 x] := rfl
theorem i32c_eq (x : Int) : i32c x = [.int .i32 x] := rfl
theorem u8c_eq (x : Int) : u8c x = [.int .u8 x] := rfl
theorem boolc_eq (x : Bool) : boolc x = [.bool x] := rfl
theorem strc_eq (x : Bs) : strc x = [.str x] := rfl
theorem slc_eq {a b : Nat} (x : List α) : slc a b E x = [.sl false a b (rows E x)] := rfl
theorem get_i64 (l : List Int) (k : Nat) : (rows i64c l).getD k [.int .i64 0] = [.int .i64 (get l k)] := rows_getD (E := i64c) l k
theorem get_u64 (l : List Int) (k : Nat) : (rows u64c l).getD k [.int .u64 0] = [.int .u64 (get l k)] := rows_getD (E := u64c) l k
theorem get_i32 (l : List Int) (k : Nat) : (rows i32c l).getD k [.int .i32 0] = [.int .i32 (get l k)] := rows_getD (E := i32c) l k
theorem get_u8 (l : List Int) (k : Nat) : (rows u8c l).getD k [.int .u8 0] = [.int .u8 (get l k)] := rows_getD (E := u8c) l k
theorem get_bool (l : List Bool) (k : Nat) : (rows boolc l).getD k [.bool false] = [.bool (get l k)] := rows_getD (E := boolc) l k
theorem get_str (l : List Bs) (k : Nat) : (rows strc l).getD k [.str []] = [.str (get l k)] := rows_getD (E := strc) l k
theorem get_sl {a b : Nat} (l : List (List α)) (k : Nat) : (rows (slc a b E) l).getD k [.sl false a b []] = [.sl false a b (rows E (get l k))] := rows_getD (E := slc a b E) l k
end

/-- a map's entries, as rows -/
def mrw {κ α : Type} (E : α → List D) (m : List (κ × α)) : List (κ × List D) := m.map fun p => (p.1, E p.2)
theorem mrw_nil {κ α : Type} {E : α → List D} : mrw E ([] : List (κ × α)) = [] := rfl
theorem mrw_len {κ α : Type} {E : α → List D} (m : List (κ × α)) : (mrw E m).length = m.length := by simp [mrw]
theorem mrw_assoc {κ α : Type} [DecidableEq κ] {E : α → List D} (k : κ) (m : List (κ × α)) : assoc k (mrw E m) = (assoc k m).map E := by
  induction m with
  | nil => rfl
  | cons p m ih =>
    obtain ⟨a, v⟩ := p
    simp only [mrw, List.map_cons, assoc] at ih ⊢
    split
    · rfl
    · exact ih
theorem mrw_set {κ α : Type} [DecidableEq κ] {E : α → List D} (k : κ) (v : α) (m : List (κ × α)) : assocSet k (E v) (mrw E m) = mrw E (assocSet k v m) := by
  induction m with
  | nil => rfl
  | cons p m ih =>
    obtain ⟨a, u⟩ := p
    simp only [mrw, List.map_cons, assocSet] at ih ⊢
    split
    · rfl
    · simp only [List.map_cons]; rw [ih]
theorem lookVal_i64 {a b : Nat} {z dd : List D} {o : Option Int} : lookVal ⟨a, b, z, dd, some (.int .i64 0), .int .i64⟩ (o.map i64c) = .int .i64 (o.getD default) := by cases o <;> rfl
theorem lookVal_bool {a b : Nat} {z dd : List D} {o : Option Bool} : lookVal ⟨a, b, z, dd, some (.bool false), .bool⟩ (o.map boolc) = .bool (o.getD default) := by cases o <;> rfl
theorem lookVal_str {a b : Nat} {z dd : List D} {o : Option Bs} : lookVal ⟨a, b, z, dd, some (.str []), .str⟩ (o.map strc) = .str (o.getD default) := by cases o <;> rfl
theorem mrw_scs {κ α : Type} {E : α → List D} {n : Nat} [h : EncOk E n] (l : List (κ × α)) (m : Nat) : (∀ (a : κ) (b : List D), (a, b) ∈ mrw E l → D.scs m b) = True := by
  refine eq_true fun a b hb => ?_
  obtain ⟨⟨x, y⟩, h1, h2⟩ := List.mem_map.1 hb
  cases h2
  exact scs_of fun j hj => imm_sc (List.all_eq_true.1 (h.imm y) _ (List.getElem_mem _)) m
theorem up_eq {st T : St} {d d' : D} (h : d = d') : Up st T d d' := h ▸ .same _
/-! ### labels -/
section
variable {P : Program} {gl : Gl} {N n0 : Nat} {keep : List Nat} {Q : AQ} {fr : Fr} {st : St}
theorem awp_scope {c : Code} (h : AWp P gl N n0 keep c Q fr st) : AWp P gl N n0 keep (.scope c) Q fr st :=
  fun w0 μ0 st0 hl a w hc => wp_scope_straight (wp_mono (h w0 μ0 st0 hl a w hc) fun e a' w' hq => by
    cases e <;> exact hq)
theorem awp_label {l : Nat} (h : Q .normal fr st) : AWp P gl N n0 keep (.label l) Q fr st :=
  fun w0 μ0 st0 hl a w hc => wp_label ⟨fr, st, h, hc⟩
end

/-! ### tables -/
def gcells {α : Type} (E : α → List D) (l : List α) : List D := (rows E l).flatten
theorem rowAt_row {α : Type} [Inhabited α] {E : α → List D} {l : List α} {k n : Nat} (hn : ∀ a, (E a).length = n) (hk : k < l.length) : rowAt (gcells E l) k n = E (get l k) := by
  induction l generalizing k with
  | nil => cases hk
  | cons a l ih =>
    have e : gcells E (a :: l) = E a ++ gcells E l := by simp [gcells, rows]
    rw [e]
    cases k with
    | zero => simp only [rowAt, Nat.zero_mul, List.drop_zero]; rw [← hn a, List.take_left]; rfl
    | succ k =>
      have h2 : rowAt (E a ++ gcells E l) (k + 1) n = rowAt (gcells E l) k n := by
        simp only [rowAt]
        rw [show (k + 1) * n = (E a).length + k * n by rw [hn a, Nat.succ_mul, Nat.add_comm], ← List.drop_drop, List.drop_left]
      rw [h2]; exact ih (by simpa using hk)

theorem uprows_pend {α : Type} {E : α → List D} {st T : St} {x ys : List α} {es : List (List D)} (h : UpRows st T es (rows E ys)) : UpRows st T (rows E x ++ es) (rows E (x ++ ys)) := by
  rw [show rows E (x ++ ys) = rows E x ++ rows E ys by simp [rows]]
  induction x with
  | nil => exact h
  | cons a x ih => exact .cons _ _ _ _ (Ups.refl _) ih
theorem take_drop_len {α : Type} (l : List α) (k : Nat) : (l.drop k).take (l.length - k) = l.drop k := List.take_of_length_le (by rw [List.length_drop]; exact Nat.le_refl _)

theorem stlen_add {st : St} (a b : Nat) : st.length + a + b = st.length + (a + b) := Nat.add_assoc _ _ _
theorem gimp_true {G : Bool} : gImp G True = True := by simp [gImp]
theorem gimp_and {G : Bool} {p q : Prop} : gImp G (p ∧ q) = (gImp G p ∧ gImp G q) := by unfold gImp; exact propext ⟨fun h => ⟨fun e => (h e).1, fun e => (h e).2⟩, fun h e => ⟨h.1 e, h.2 e⟩⟩
instance {G : Bool} {p : Prop} [Decidable p] : Decidable (gImp G p) := by unfold gImp; exact inferInstance
instance {k : IntKind} {n : Int} : Decidable (InK k n) := by unfold InK; exact inferInstance
theorem arith_eq (k : IntKind) (n : Int) : arith k n = ⟨.int k (wr k n), True, [], none, none⟩ := rfl
theorem wrap_wr (k : IntKind) (n : Int) : k.wrap n = wr k n := rfl
theorem wr_id {n : Int} (h1 : -9223372036854775808 ≤ n) (h2 : n ≤ 9223372036854775807) : wr .i64 n = n := by
  unfold wr
  exact wrap_in (k := .i64) ⟨h1, h2⟩
theorem wr_le {k n : Nat} (hk : k < n) (h : n ≤ 9223372036854775807) : wr .i64 ((k : Int) + 1) = ((k + 1 : Nat) : Int) := by
  rw [wr_id (by omega) (by omega)]; omega
theorem wr_lit {k : Nat} (h : k < 9223372036854775807) : wr .i64 ((k : Int) + 1) = ((k + 1 : Nat) : Int) := wr_le (n := k + 1) (by omega) (by omega)
theorem wr_succ {k n b : Nat} (hk : k < n) (h : n * b ≤ top) (hb : 1 ≤ b) : wr .i64 ((k : Int) + 1) = ((k + 1 : Nat) : Int) := by
  have h1 : n * 1 ≤ n * b := Nat.mul_le_mul_left n hb
  unfold top at h
  rw [wr_id (by omega) (by omega)]; omega

section
variable {P : Program} {gl : Gl} {N n0 : Nat} {keep : List Nat} {Q : AQ} {fr : Fr} {st : St} {c x : Code} {id : Nat}

/-! ### what stands may be taken for something else, in steps -/

inductive BkS (n0 : Nat) (F : Fr) (T : St) : Fr → St → Prop
  | nil : BkS n0 F T F T
  | cons {F' fr : Fr} {T' st : St} (h : Bk n0 F' T' fr st) (ht : BkS n0 F T F' T') : BkS n0 F T fr st

theorem BkS.one {F : Fr} {T : St} (h : Bk n0 F T fr st) : BkS n0 F T fr st := .cons h .nil
theorem BkS.trans {F F' : Fr} {T T' : St} (h : BkS n0 F' T' fr st) (h2 : BkS n0 F T F' T') : BkS n0 F T fr st := by
  induction h with
  | nil => exact h2
  | cons h _ ih => exact .cons h ih
theorem awp_bks {F : Fr} {T : St} (hb : BkS n0 F T fr st) (h : AWp P gl N n0 keep c Q F T) : AWp P gl N n0 keep c Q fr st := by
  induction hb with
  | nil => exact h
  | cons hb _ ih => exact awp_bk hb ih

theorem bks_mk {s l l' : St} {F : Fr} (hsc : StSc s.length s) (hu : UpL (s ++ l) (s ++ l') l l') (hl : ScL (s ++ l').length l') (hf : FrUp (s ++ l) (s ++ l') fr F) (hs : Fr.sc (s ++ l').length F) :
    BkS s.length F (s ++ l') fr (s ++ l) := .one ⟨by simp, wk_of hsc hu hl, hf, hs⟩
theorem bks_mk0 {s l : St} {F : Fr} (hsc : StSc s.length s) (hf : FrUp (s ++ l) s fr F) (hs : Fr.sc s.length F) : BkS s.length F s fr (s ++ l) := .one ⟨Nat.le_refl _, wk_old hsc, hf, hs⟩
theorem bks_mk00 {s : St} {F : Fr} (hsc : StSc s.length s) (hf : FrUp s s fr F) (hs : Fr.sc s.length F) : BkS s.length F s fr s := .one ⟨Nat.le_refl _, wk_same hsc, hf, hs⟩

theorem get_new0 {s t : St} : (s ++ t)[s.length]? = t[0]? := get_new (k := 0)
theorem look_out0 {s : St} : look s s.length = none := look_out (k := 0)
theorem look_out2 {s t : St} {k : Nat} (h : t.length ≤ k) : look (s ++ t) (s.length + k) = none := by
  unfold look; rw [List.getElem?_eq_none (by simp; omega)]; rfl
theorem fin_same' {s : St} {d d' : D} {R : D → St → Prop} (hsc : StSc s.length s) (hu : Up s s d d') (hd : D.sc s.length d') (h : R d' s) : fin s.length R d s :=
  ⟨s, d', Nat.le_refl _, wk_same hsc, hu, hd, h⟩

/-! ### the end of a function -/

def finB (P : Program) (rs : List ResultVar) (n0 : Nat) (R : D → St → Prop) : AQ
  | .exit _, _, _ => False
  | _, fr, st => ∃ F T, BkS n0 F T fr st ∧ rsOk P F T rs ∧ fin n0 R (rsD P F T rs) T

theorem finb_of {rs : List ResultVar} {R : D → St → Prop} (h : finQ P rs n0 R .ret fr st) : finB P rs n0 R .ret fr st := ⟨fr, st, .nil, h.1, h.2⟩
theorem finb_ofn {rs : List ResultVar} {R : D → St → Prop} (h : finQ P rs n0 R .ret fr st) : finB P rs n0 R .normal fr st := ⟨fr, st, .nil, h.1, h.2⟩
theorem finb_bks {rs : List ResultVar} {R : D → St → Prop} {F : Fr} {T : St} (hb : BkS n0 F T fr st) (h : finB P rs n0 R .normal F T) : finB P rs n0 R .normal fr st := by
  obtain ⟨F', T', h1, h2⟩ := h
  exact ⟨F', T', hb.trans h1, h2⟩

theorem ConcE.bks {w0 : World} {μ0 : Mu} {st0 : St} {a : Act} {w : World} {F : Fr} {T : St} (hl0 : st0.length = n0) (hb : BkS n0 F T fr st) (h : ConcE gl N w0 μ0 st0 fr st a w) : ConcE gl N w0 μ0 st0 F T a w := by
  induction hb with
  | nil => exact h
  | cons hb _ ih =>
    obtain ⟨μ, hc⟩ := h
    exact ih ⟨μ, hc.sim.wk hb.wk, glob_of hc.glob (fun _ h => hb.wk.kill.own h),
      fun t => VR.up hc.sim hb.wk.kill (hb.up.get t) (hc.fr t) (Fr.sc_get _ hb.sc t), hc.size, hc.defers, Step.wk (by rw [hl0]; exact hb.len) hb.wk hc.step⟩

theorem spec_fb {f : FuncId} {fn : Func} {c : Code} {args : List D} {R : D → St → Prop} {rs : List ResultVar} (keep : List Nat) (hf : P.funcs[f]? = some fn) (hb : fn.body = some c) (hN : fn.ntmps = N) (hr : fn.results.toList = rs)
    (hname : (fn.name != "runtime.NumGoroutine") = true) (hlen : Nat.ble args.length N = true)
    (h : StSc st.length st → AWp P gl N st.length keep c (finB P rs st.length R) (argFr 0 args) st) : Spec P gl f args st R := by
  refine spec_fn keep hf hb hN hr hname hlen fun hsc => ?_
  intro w0 μ0 st0 hl a w hc
  refine wp_mono (h hsc w0 μ0 st0 hl a w hc) fun e a' w' hq => ?_
  cases e with
  | normal =>
    obtain ⟨fr', st', ⟨F, T, h1, h2, h3⟩, h4⟩ := hq
    exact ⟨F, T, ⟨h2, h3⟩, h4.bks hl h1⟩
  | ret =>
    obtain ⟨fr', st', ⟨F, T, h1, h2, h3⟩, h4⟩ := hq
    exact ⟨F, T, ⟨h2, h3⟩, h4.bks hl h1⟩
  | exit id => obtain ⟨fr', st', h1, h2⟩ := hq; exact h1.elim
  | goto => exact hq.elim
  | panic => exact hq.elim
  | outgrown => exact hq.elim

/-! ### joins -/

theorem awp_jn {σ Γ ρ : Type} (K : σ → Option ρ) (e : ρ) (F : Γ → σ → Fr) (T : Γ → σ → St) (hk : ∀ γ s fr st, K s = some e → BkS n0 (F γ s) (T γ s) fr st → Q .normal fr st)
    (hx : (∀ γ s fr st, K s = some e → BkS n0 (F γ s) (T γ s) fr st → Q .normal fr st) → AWp P gl N n0 keep x Q fr st) : AWp P gl N n0 keep x Q fr st := hx hk

/-! ### loops -/

def PBr {Γ ρ σ : Type} (n0 id : Nat) (F : Γ → Nat → σ → Fr) (T : Γ → Nat → σ → St) (Fb : Γ → σ → Fr) (Tb : Γ → σ → St) (Q : AQ) (k : Nat) : Ctl ρ σ σ → AQ
  | .nxt s => fun ex fr st => ex = .normal ∧ ∃ γ, BkS n0 (F γ (k + 1) s) (T γ (k + 1) s) fr st
  | .brk s => fun ex fr st => ex = .exit id ∧ ∃ γ, BkS n0 (Fb γ s) (Tb γ s) fr st
  | .ret _ => fun ex fr st => ex ≠ .normal ∧ AQ.block id Q ex fr st

theorem awp_range {Γ ρ σ : Type} {body : Nat → σ → Option (Ctl ρ σ σ)} {n : Nat} {s0 : σ} {kk : σ → Option ρ} {e : ρ} (F : Γ → Nat → σ → Fr) (T : Γ → Nat → σ → St) (Fb : Γ → σ → Fr) (Tb : Γ → σ → St) (γ0 : Γ)
    (h : thenM (rangeM body n s0) kk = some e)
    (h0 : BkS n0 (F γ0 0 s0) (T γ0 0 s0) fr st)
    (hs : ∀ γ k s b, k < n → body k s = some b → (∀ x, b = .ret x → x = e) → AWp P gl N n0 keep c (PBr n0 id F T Fb Tb Q k b) (F γ k s) (T γ k s))
    (he : ∀ γ s, AWp P gl N n0 keep c (fun ex fr st => ex = .exit id ∧ ∃ γ', BkS n0 (Fb γ' s) (Tb γ' s) fr st) (F γ n s) (T γ n s))
    (hk : ∀ γ s fr st, kk s = some e → BkS n0 (Fb γ s) (Tb γ s) fr st → Q .normal fr st) :
    AWp P gl N n0 keep (.block id (.loop c)) Q fr st := by
  refine awp_block (awp_bks h0 ?_)
  unfold rangeM at h
  have key : ∀ m k s γ, k + m = n → thenM (rangeGo body m k s) kk = some e → AWp P gl N n0 keep (.loop c) (AQ.block id Q) (F γ k s) (T γ k s) := by
    intro m
    induction m with
    | zero =>
      intro k s γ hk' h1
      have : k = n := by omega
      subst this
      refine awp_loop (awp_mono (he γ s) fun ex fr st hq => ?_)
      obtain ⟨rfl, γ', hb⟩ := hq
      show AQ.block id Q (.exit id) fr st
      simp only [AQ.block, if_true]
      exact hk γ' s fr st h1 hb
    | succ m ih =>
      intro k s γ hk' h
      simp only [rangeGo] at h
      cases hb : body k s with
      | none => rw [hb] at h; cases h
      | some b =>
        rw [hb] at h
        refine awp_loop (awp_mono (hs γ k s b (by omega) hb ?_) fun ex fr st hq => ?_)
        · intro x hx
          subst hx
          cases h; rfl
        · cases b with
          | nxt s' =>
            obtain ⟨rfl, γ', hb'⟩ := hq
            exact awp_bks hb' (ih (k + 1) s' γ' (by omega) h)
          | brk s' =>
            obtain ⟨rfl, γ', hb'⟩ := hq
            show AQ.block id Q (.exit id) fr st
            simp only [AQ.block, if_true]
            exact hk γ' s' fr st h hb'
          | ret x =>
            obtain ⟨h1, h2⟩ := hq
            cases ex with
            | normal => exact absurd rfl h1
            | _ => exact h2
  exact key n 0 s0 γ0 (by omega) h

def PBw {Γ Δ ρ σ τ : Type} (n0 id : Nat) (F : Γ → σ → Fr) (T : Γ → σ → St) (Fb : Δ → τ → Fr) (Tb : Δ → τ → St) (Q : AQ) : Ctl ρ σ τ → AQ
  | .nxt s => fun ex fr st => ex = .normal ∧ ∃ γ, BkS n0 (F γ s) (T γ s) fr st
  | .brk s => fun ex fr st => ex = .exit id ∧ ∃ γ, BkS n0 (Fb γ s) (Tb γ s) fr st
  | .ret _ => fun ex fr st => ex ≠ .normal ∧ AQ.block id Q ex fr st

theorem awp_while {Γ Δ ρ σ τ : Type} {body : σ → Option (Ctl ρ σ τ)} {n : Nat} {s0 : σ} {kk : τ → Option ρ} {e : ρ} (F : Γ → σ → Fr) (T : Γ → σ → St) (Fb : Δ → τ → Fr) (Tb : Δ → τ → St) (γ0 : Γ)
    (h : thenM (loopM body n s0) kk = some e)
    (h0 : BkS n0 (F γ0 s0) (T γ0 s0) fr st)
    (hs : ∀ γ s b, body s = some b → (∀ x, b = .ret x → x = e) → AWp P gl N n0 keep c (PBw n0 id F T Fb Tb Q b) (F γ s) (T γ s))
    (hk : ∀ γ s fr st, kk s = some e → BkS n0 (Fb γ s) (Tb γ s) fr st → Q .normal fr st) :
    AWp P gl N n0 keep (.block id (.loop c)) Q fr st := by
  refine awp_block (awp_bks h0 ?_)
  have key : ∀ m s γ, thenM (loopM body m s) kk = some e → AWp P gl N n0 keep (.loop c) (AQ.block id Q) (F γ s) (T γ s) := by
    intro m
    induction m with
    | zero => intro s γ h; cases h
    | succ m ih =>
      intro s γ h
      simp only [loopM] at h
      cases hb : body s with
      | none => rw [hb] at h; cases h
      | some b =>
        rw [hb] at h
        refine awp_loop (awp_mono (hs γ s b hb ?_) fun ex fr st hq => ?_)
        · intro x hx
          subst hx
          cases h; rfl
        · cases b with
          | nxt s' =>
            obtain ⟨rfl, γ', hb'⟩ := hq
            exact awp_bks hb' (ih s' γ' h)
          | brk s' =>
            obtain ⟨rfl, γ', hb'⟩ := hq
            show AQ.block id Q (.exit id) fr st
            simp only [AQ.block, if_true]
            exact hk γ' s' fr st h hb'
          | ret x =>
            obtain ⟨h1, h2⟩ := hq
            cases ex with
            | normal => exact absurd rfl h1
            | _ => exact h2
  exact key n s0 γ0 h

section
variable {Γ Δ ρ σ τ : Type} {F : Γ → σ → Fr} {T : Γ → σ → St} {Fb : Δ → τ → Fr} {Tb : Δ → τ → St} {Fk : Γ → Nat → σ → Fr} {Tk : Γ → Nat → σ → St} {Fc : Γ → σ → Fr} {Tc : Γ → σ → St} {k : Nat} {ex : AExit}
theorem pbr_nxt {s : σ} (γ : Γ) (h : BkS n0 (Fk γ (k + 1) s) (Tk γ (k + 1) s) fr st) : PBr (ρ := ρ) n0 id Fk Tk Fc Tc Q k (.nxt s) .normal fr st := ⟨rfl, γ, h⟩
theorem pbr_brk {s : σ} (γ : Γ) (h : BkS n0 (Fc γ s) (Tc γ s) fr st) : PBr (ρ := ρ) n0 id Fk Tk Fc Tc Q k (.brk s) (.exit id) fr st := ⟨rfl, γ, h⟩
theorem pbr_ret {x : ρ} (h : AQ.block id Q .ret fr st) : PBr n0 id Fk Tk Fc Tc Q k (.ret x) .ret fr st := ⟨AExit.noConfusion, h⟩
theorem pbw_nxt {s : σ} (γ : Γ) (h : BkS n0 (F γ s) (T γ s) fr st) : PBw (ρ := ρ) n0 id F T Fb Tb Q (.nxt s) .normal fr st := ⟨rfl, γ, h⟩
theorem pbw_brk {s : τ} (γ : Δ) (h : BkS n0 (Fb γ s) (Tb γ s) fr st) : PBw (ρ := ρ) n0 id F T Fb Tb Q (.brk s) (.exit id) fr st := ⟨rfl, γ, h⟩
theorem pbw_ret {x : ρ} (h : AQ.block id Q .ret fr st) : PBw n0 id F T Fb Tb Q (.ret x) .ret fr st := ⟨AExit.noConfusion, h⟩
end
end

attribute [simp] mrw_scs ScL Ob.sc D.sc D.scs Fr.sc rows_scs
attribute [go_sem] or_true Int.cast_ofNat_Int i64c_eq u64c_eq i32c_eq u8c_eq boolc_eq strc_eq slc_eq Int.reduceEq Int.reduceNe Nat.zero_le true_or List.length_replicate Option.mem_def Option.map_some Option.map_none false_implies forall_eq' Option.isSome_none Option.some.injEq stlen_add Int.le_refl decide_true decide_false mrw_len mrw_assoc lookVal_i64 lookVal_bool lookVal_str rows_take rows_drop take_drop_len wrap_wr IntKind.bits Option.isSome_map List.drop_zero Int.toNat_zero Int.reduceToNat Int.reduceNeg Int.reduceLT Int.reduceLE Nat.reducePow arith_eq gimp_true gimp_and Option.isSome_some rows_len take_self get_i64 get_u64 get_i32 get_u8 get_bool get_str get_sl Int.toNat_natCast Nat.zero_add Nat.sub_zero Nat.le_refl Int.natCast_nonneg Int.ofNat_lt reduceCtorEq
  Nat.reduceAdd Nat.reduceEqDiff Nat.reduceLT Nat.reduceLeDiff Nat.reduceMul Nat.reduceSub Nat.reduceBEq Nat.reduceBNe reduceIte
end Go.Am

/-
  AM, part 38: calls that change objects that came in; objects lent to a call.
-/
namespace Go.Am
open Go

/-- a store with some objects put anew; the first entry counts -/
def upds (st : St) : List (Nat × Ob) → St
  | [] => st
  | (o, x) :: m => (upds st m).set o (some x)
def lookM : List (Nat × Ob) → Nat → Option Ob → Option Ob
  | [], _, d => d
  | (a, x) :: m, o, d => if o = a then some x else lookM m o d
def setM : List (Nat × Ob) → Nat → Ob → List (Nat × Ob)
  | [], o, x => [(o, x)]
  | (a, y) :: m, o, x => if o = a then (a, x) :: m else (a, y) :: setM m o x

theorem upds_len (st : St) : ∀ m : List (Nat × Ob), (upds st m).length = st.length
  | [] => rfl
  | (o, x) :: m => by simp [upds, upds_len st m]

theorem look_upds {st l : St} {o : Nat} (ho : o < st.length) : ∀ m : List (Nat × Ob), look (upds st m ++ l) o = lookM m o (look st o)
  | [] => by
    simp only [upds, lookM]
    unfold look
    rw [List.getElem?_append_left ho]
  | (a, x) :: m => by
    have ih := look_upds (l := l) ho m
    have hl := upds_len st m
    simp only [upds, lookM]
    unfold look at ih ⊢
    rw [List.getElem?_append_left (by simp [hl]; exact ho)]
    rw [List.getElem?_append_left (by rw [hl]; exact ho)] at ih
    rw [List.getElem?_set]
    by_cases e : o = a
    · subst e; rw [if_pos rfl, if_pos (by rw [hl]; exact ho), if_pos rfl]; rfl
    · rw [if_neg (fun h => e h.symm), if_neg e]; exact ih
theorem look_upds0 {st : St} {o : Nat} (ho : o < st.length) (m : List (Nat × Ob)) : look (upds st m) o = lookM m o (look st o) := by
  have := look_upds (l := []) ho m
  rwa [List.append_nil] at this
theorem look_updsn {st l : St} {m : List (Nat × Ob)} {k : Nat} : look (upds st m ++ l) (st.length + k) = look l k := by
  rw [← upds_len st m]; exact look_new
theorem look_updsn0 {st l : St} {m : List (Nat × Ob)} : look (upds st m ++ l) st.length = look l 0 := look_updsn (k := 0)

theorem set_upds {st l : St} {o : Nat} {x : Ob} (ho : o < st.length) : ∀ m : List (Nat × Ob), (upds st m ++ l).set o (some x) = upds st (setM m o x) ++ l
  | [] => by simp only [setM, upds]; rw [List.set_append_left _ _ ho]
  | (a, y) :: m => by
    have ih := set_upds (l := l) (x := x) ho m
    have hl := upds_len st m
    simp only [upds, setM]
    rw [List.set_append_left _ _ (by simp [hl]; exact ho)]
    rw [List.set_append_left _ _ (by rw [hl]; exact ho)] at ih
    have ih' := List.append_cancel_right ih
    split
    · rename_i e; subst e
      simp [upds, List.set_set]
    · rename_i e
      simp only [upds]
      rw [List.set_comm _ _ (fun h => e h.symm), ih']
theorem set_upds0 {st : St} {o : Nat} {x : Ob} (ho : o < st.length) (m : List (Nat × Ob)) : (upds st m).set o (some x) = upds st (setM m o x) := by
  have := set_upds (l := []) (x := x) ho m
  rwa [List.append_nil, List.append_nil] at this
theorem set_updsn {st l : St} {m : List (Nat × Ob)} {k : Nat} {x : Option Ob} : (upds st m ++ l).set (st.length + k) x = upds st m ++ l.set k x := by
  rw [← upds_len st m]; exact set_new
theorem set_updsn0 {st l : St} {m : List (Nat × Ob)} {x : Option Ob} : (upds st m ++ l).set st.length x = upds st m ++ l.set 0 x := set_updsn (k := 0)
theorem get_updsn {st l : St} {m : List (Nat × Ob)} {k : Nat} : (upds st m ++ l)[st.length + k]? = l[k]? := by
  rw [← upds_len st m]; exact get_new
theorem get_updsn0 {st l : St} {m : List (Nat × Ob)} : (upds st m ++ l)[st.length]? = l[0]? := get_updsn (k := 0)
theorem len_updsn {st l : St} {m : List (Nat × Ob)} : (upds st m ++ l).length = st.length + l.length := by rw [List.length_append, upds_len]

/-- what is put is what was there -/
theorem upds_self {st : St} : ∀ {m : List (Nat × Ob)}, (∀ p ∈ m, look st p.1 = some p.2) → upds st m = st
  | [], _ => rfl
  | (o, x) :: m, h => by
    simp only [upds]
    rw [upds_self (fun p hp => h p (List.mem_cons_of_mem _ hp))]
    have := look_some (h (o, x) (List.mem_cons_self ..))
    apply List.ext_getElem?
    intro i
    rw [List.getElem?_set]
    split
    · rename_i e; subst e
      have hl := (List.getElem?_eq_some_iff.1 this).1
      rw [if_pos hl, this]
    · rfl

theorem look_lt {st : St} {o : Nat} {x : Ob} (h : look st o = some x) : o < st.length := (List.getElem?_eq_some_iff.1 (look_some h)).1

def scM (n : Nat) : List (Nat × Ob) → Prop
  | [] => True
  | (_, x) :: m => x.sc n ∧ scM n m
theorem upds_sc {st : St} (h : StSc st.length st) : ∀ {m : List (Nat × Ob)}, scM st.length m → StSc (upds st m).length (upds st m)
  | [], _ => h
  | (o, x) :: m, hm => by
    have ih := upds_sc h hm.2
    intro o' ob e
    simp only [upds] at e ⊢
    rw [List.length_set]
    rw [List.getElem?_set] at e
    split at e
    · split at e
      · cases e; rw [upds_len]; exact hm.1
      · cases e
    · exact ih o' ob e

section
variable {P : Program} {gl : Gl} {N n0 : Nat} {keep : List Nat} {Q : AQ} {fr : Fr} {st : St} {c : Code}

theorem awp_st {s s' : St} (e : s' = s) (h : AWp P gl N n0 keep c Q fr s') : AWp P gl N n0 keep c Q fr s := e ▸ h

theorem bku_mk {s l l' : St} {F : Fr} (hn : n0 ≤ s.length) (hsc : StSc s.length s) (hu : UpL (s ++ l) (s ++ l') l l') (hl : ScL (s ++ l').length l') (hf : FrUp (s ++ l) (s ++ l') fr F) (hs : Fr.sc (s ++ l').length F) :
    BkS n0 F (s ++ l') fr (s ++ l) := .one ⟨by simp; omega, wk_of hsc hu hl, hf, hs⟩
theorem bku_mk0 {s l : St} {F : Fr} (hn : n0 ≤ s.length) (hsc : StSc s.length s) (hf : FrUp (s ++ l) s fr F) (hs : Fr.sc s.length F) : BkS n0 F s fr (s ++ l) := .one ⟨hn, wk_old hsc, hf, hs⟩
theorem bku_mk00 {s : St} {F : Fr} (hn : n0 ≤ s.length) (hsc : StSc s.length s) (hf : FrUp s s fr F) (hs : Fr.sc s.length F) : BkS n0 F s fr s := .one ⟨hn, wk_same hsc, hf, hs⟩

theorem finu_old {s l : St} {d d' : D} {R : D → St → Prop} (hn : n0 ≤ s.length) (hsc : StSc s.length s) (hu : Up (s ++ l) s d d') (hd : D.sc s.length d') (h : R d' s) : fin n0 R d (s ++ l) :=
  ⟨s, d', hn, wk_old hsc, hu, hd, h⟩
theorem finu_same {s : St} {d d' : D} {R : D → St → Prop} (hn : n0 ≤ s.length) (hsc : StSc s.length s) (hu : Up s s d d') (hd : D.sc s.length d') (h : R d' s) : fin n0 R d s :=
  ⟨s, d', hn, wk_same hsc, hu, hd, h⟩

/-! ### objects that are lent to a call -/

mutual
/-- no memory in it -/
def D.flat : D → Bool
  | .bool _ => true
  | .int _ _ => true
  | .str _ => true
  | .agg cs => D.flats cs
  | .tup cs => D.flats cs
  | _ => false
def D.flats : List D → Bool
  | [] => true
  | d :: l => d.flat && D.flats l
end
theorem flats_get : ∀ {l : List D}, D.flats l = true → ∀ j (h : j < l.length), (l[j]).flat = true
  | d :: l, h, 0, _ => by simp only [D.flats, Bool.and_eq_true] at h; exact h.1
  | d :: l, h, j + 1, hj => by
    simp only [D.flats, Bool.and_eq_true] at h
    exact flats_get (l := l) h.2 j (by simpa using hj)

theorem VR.flat {w w' : World} {μ μ' : Mu} {s s' : St} {v : Value} {d : D} (h : VR w μ s v d) (hf : d.flat = true) : VR w' μ' s' v d := by
  induction h with
  | any => cases hf
  | tr h =>
    cases h with
    | bool b => exact .tr (.bool b)
    | int k n => exact .tr (.int k n)
    | str x => exact .tr (.str x)
    | _ => cases hf
  | agg vs cs hs hc ih => exact .agg vs cs hs fun j hj => ih j hj (flats_get hf j hj)
  | tup vs cs hs hc ih => exact .tup vs cs hs fun j hj => ih j hj (flats_get hf j hj)
  | fn => cases hf
  | ref => cases hf
  | ptr => cases hf
  | mp => cases hf
  | it => cases hf
  | cond => cases hf

def dead (st : St) : St := List.replicate st.length none
theorem dead_get {st : St} {o : Nat} {ob : Ob} : ¬ (dead st)[o]? = some (some ob) := by
  unfold dead
  rw [List.getElem?_replicate]
  split <;> simp
theorem look_dead {st : St} {o : Nat} : look (dead st) o = none := by
  cases h : look (dead st) o with
  | none => rfl
  | some x => exact absurd (look_some h) dead_get
theorem dead_own {μ : Mu} {st : St} {blk : Nat} : ¬ own μ (dead st) blk := fun ⟨_, _, _, h, _⟩ => dead_get h
theorem dead_kill {st : St} : Kill st (dead st) := ⟨by simp [dead], fun _ _ h => absurd h dead_get⟩
theorem dead_len {st : St} : (dead st).length = st.length := by simp [dead]

theorem Pure.borrow {f : FuncId} {args args' : List D} {r : D} (h : Pure P gl f args' r) (hu : Ups st (dead st) args args') (hsc : D.scs (dead st).length args') (hr : r.flat = true) {R : D → St → Prop} (hR : R r st) : Spec P gl f args st R := by
  refine ⟨(h st).1, fun w μ vs hs hg hsz hvs => ?_⟩
  have hs0 : Sim w μ (dead st) := ⟨fun o ob e => absurd e dead_get, fun o _ _ _ _ _ _ e => absurd e dead_get⟩
  have hg0 : Glob gl w μ (dead st) := glob_of hg (fun blk hb => absurd hb dead_own)
  have hv0 : ∀ j (hj : j < args'.length), VR w μ (dead st) (vs.getD j undef) (args'[j]) := fun j hj => by
    have hj' : j < args.length := by rw [← hu.len]; exact hj
    exact VR.up hs dead_kill (hu.get j hj' hj) (hvs j hj') (scs_get hsc j hj)
  refine ((h (dead st)).2 w μ vs hs0 hg0 (by rw [hsz, hu.len]) hv0).mono fun e w' ⟨v, d, st', μ', he, ⟨hd, hst⟩, hs', hstep, hv⟩ => ?_
  subst hd; subst hst
  have hblk : ∀ blk, blk < w.heap.size → w'.heap[blk]? = w.heap[blk]? := fun blk hb => hstep.imm blk hb dead_own
  have hlt : ∀ {blk : Nat}, (w.heap[blk]?).isSome = true → blk < w.heap.size := fun {blk} e => by
    rcases Nat.lt_or_ge blk w.heap.size with h | h
    · exact h
    · rw [Array.getElem?_eq_none h] at e; cases e
  have step : Step w μ st w' μ st := {
    size := hstep.size, os := hstep.os, output := hstep.output, tape := hstep.tape
    imm := fun blk hb _ => hblk blk hb
    own := fun blk hb => .inl hb
    len := Nat.le_refl _
    keep := fun o ob ho e => ⟨ob, e, by
      cases ob with
      | arr g n b es => exact ⟨Nat.le_refl _, fun _ => ⟨rfl, rfl, rfl, rfl, fun blk base c ty _ hh => ⟨c, by rw [hblk blk (hlt (by rw [hh]; rfl))]; exact hh, rfl⟩⟩⟩
      | mps => exact ⟨rfl, rfl⟩
      | mpi => exact ⟨rfl, rfl, rfl⟩
      | sit => exact rfl
      | resv => exact trivial⟩ }
  refine ⟨v, d, st, μ, he, hR, ⟨fun o ob e => ?_, hs.inj⟩, step, hv.flat hr⟩
  have hob := hs.obj o ob e
  refine hob.step step fun blk base em => ?_
  cases ob with
  | arr g n b es =>
    obtain ⟨_, _, h3⟩ := (hob : ArrR w μ st (μ o) n b es)
    rcases h3 with ⟨h3, _⟩ | ⟨blk', base', c, ty, em', hh, _⟩
    · rw [em] at h3; cases h3
    · rw [em] at em'; cases em'; exact hblk _ (hlt (by rw [hh]; rfl))
  | mps ag es =>
    obtain ⟨blk', ents, clock, em', hh, _⟩ := (hob : MapR _ ag w μ _ (μ o) es).loc
    rw [em] at em'; cases em'; exact hblk _ (hlt (by rw [hh]; rfl))
  | mpi ag k es =>
    obtain ⟨blk', ents, clock, em', hh, _⟩ := (hob : MapR _ ag w μ _ (μ o) es).loc
    rw [em] at em'; cases em'; exact hblk _ (hlt (by rw [hh]; rfl))
  | sit s p =>
    obtain ⟨blk', em', hh⟩ := hob
    rw [em] at em'; cases em'; exact hblk _ (hlt (by rw [hh]; rfl))
  | resv =>
    have : μ o = none := hob
    rw [em] at this; cases this
end

section
variable {P : Program} {gl : Gl} {st : St}
/-- a call that is handed objects which nobody looks at afterwards: they are shut for good -/
theorem Pure.freeze {f : FuncId} {args args' : List D} {r : D} {T : St} (h : Pure P gl f args' r) (hw : WkSt st T) (hl : st.length ≤ T.length) (hu : Ups st T args args') (hsc : D.scs T.length args') {R : D → St → Prop} (hR : R r T) : Spec P gl f args st R := by
  refine ⟨(h T).1, fun w μ vs hs hg hsz hvs => ?_⟩
  have hv0 : ∀ j (hj : j < args'.length), VR w μ T (vs.getD j undef) (args'[j]) := fun j hj => by
    have hj' : j < args.length := by rw [← hu.len]; exact hj
    exact VR.up hs hw.kill (hu.get j hj' hj) (hvs j hj') (scs_get hsc j hj)
  refine ((h T).2 w μ vs (hs.wk hw) (glob_of hg (fun _ h => hw.kill.own h)) (by rw [hsz, hu.len]) hv0).mono fun e w' ⟨v, d, st', μ', he, ⟨hd, hst⟩, hs', hstep, hv⟩ => ?_
  subst hd; subst hst
  exact ⟨v, d, st', μ', he, hR, hs', (Step.wk hl hw (Step.refl w μ st)).trans hstep, hv⟩
end

attribute [simp] scM upds_len
attribute [go_sem] lookM setM look_updsn look_updsn0 set_updsn set_updsn0 len_updsn upds_len
end Go.Am
namespace Go.Am
open Go
theorem look_outu {st : St} {m : List (Nat × Ob)} {k : Nat} : look (upds st m) (st.length + k) = none := by rw [← upds_len st m]; exact look_out
theorem look_outu0 {st : St} {m : List (Nat × Ob)} : look (upds st m) st.length = none := look_outu (k := 0)
theorem look_outu2 {st t : St} {m : List (Nat × Ob)} {k : Nat} (h : t.length ≤ k) : look (upds st m ++ t) (st.length + k) = none := by rw [← upds_len st m]; exact look_out2 h
attribute [go_sem] puts_nil puts_cons
end Go.Am
namespace Go.Am
open Go
section
variable {P : Program} {gl : Gl} {N b : Nat} {fr : Fr} {st : St} {dst : Option Nat} {f : FuncId} {args : List D} {r : D} {lg : Log} {tr G : Bool} {kk : Log → Fr → St → Prop} {k : Fr → St → Prop}
theorem dc_loc (rd : List Nat) {ups : List (Nat × Ob)} (h : ∀ st2, (∀ o ∈ rd, look st2 o = look st o) → Spec P gl f args st2 fun d st' => d = r ∧ st' = puts st2 ups) (hu : ∀ p ∈ ups, p.1 ∈ rd)
    (hrd : ∀ o ∈ rd, o < b ∧ ∃ ob, look st o = some ob ∧ ob ≠ .resv) (ht : tr = false → rd = []) (hk : kk (lgAdd tr lg ⟨r, True, rd, none, none⟩ ups) (fr.putO dst r) (puts st ups)) :
    DCall P gl b tr dst lg fr st kk f args :=
  ⟨r, rd, ups, h, hu, hrd, ht, hk⟩
theorem dgc_loc (rd : List Nat) {ups : List (Nat × Ob)} (h : G = true → ∀ st2, (∀ o ∈ rd, look st2 o = look st o) → Spec P gl f args st2 fun d st' => d = r ∧ st' = puts st2 ups) (hu : ∀ p ∈ ups, p.1 ∈ rd)
    (hrd : ∀ o ∈ rd, o < b ∧ ∃ ob, look st o = some ob ∧ ob ≠ .resv) (ht : tr = false → rd = []) (hf : G = false → puts st ups = st) (hk : kk (lgAdd tr lg ⟨r, True, rd, none, none⟩ ups) (fr.putO dst (.cond G r)) (puts st ups)) :
    DGCall P gl b G tr dst lg fr st kk f args :=
  ⟨r, rd, ups, h, hu, hrd, ht, hf, hk⟩
theorem gc_loc {ups : List (Nat × Ob)} (h : G = true → Spec P gl f args st fun d st' => d = r ∧ st' = puts st ups) (hf : G = false → puts st ups = st) (hk : k (fr.putO dst (.cond G r)) (puts st ups)) :
    GCall P gl G dst fr st k f args := ⟨r, ups, h, hf, hk⟩
end
end Go.Am

/-
  PL, part 1: what a mirror comes to once its fuel is large enough.
-/
namespace Go.Am
open Go

/-- from some fuel on, the answer is r, of which P holds -/
def Evt {α : Type} (x : Nat → Option α) (P : α → Prop) : Prop := ∃ r, P r ∧ ∃ N, ∀ n, N ≤ n → x n = some r

section
variable {α β ρ σ τ : Type} {P : α → Prop} {Q : β → Prop}

theorem Evt.mono {x : Nat → Option α} {P' : α → Prop} (h : Evt x P) (hp : ∀ r, P r → P' r) : Evt x P' := by
  obtain ⟨r, hr, N, hN⟩ := h
  exact ⟨r, hp r hr, N, hN⟩
theorem Evt.pure {r : α} (h : P r) : Evt (fun _ => some r) P := ⟨r, h, 0, fun _ _ => rfl⟩
theorem Evt.of {x : Option α} {r : α} (e : x = some r) (h : P r) : Evt (fun _ => x) P := ⟨r, h, 0, fun _ _ => e⟩
theorem Evt.congr {x y : Nat → Option α} (h : Evt x P) (e : ∀ n, y n = x n) : Evt y P := by
  obtain ⟨r, hr, N, hN⟩ := h
  exact ⟨r, hr, N, fun n hn => (e n).trans (hN n hn)⟩
theorem Evt.succ {x : Nat → Option α} (h : Evt (fun n => x (n + 1)) P) : Evt x P := by
  obtain ⟨r, hr, N, hN⟩ := h
  refine ⟨r, hr, N + 1, fun n hn => ?_⟩
  obtain ⟨m, rfl⟩ : ∃ m, n = m + 1 := ⟨n - 1, by omega⟩
  exact hN m (by omega)
theorem Evt.bind {x : Nat → Option α} {f : Nat → α → Option β} (h : Evt x P) (hf : ∀ r, P r → Evt (fun n => f n r) Q) : Evt (fun n => (x n).bind (f n)) Q := by
  obtain ⟨r, hr, N, hN⟩ := h
  obtain ⟨s, hs, M, hM⟩ := hf r hr
  exact ⟨s, hs, max N M, fun n hn => by show (x n).bind (f n) = _; rw [hN n (by omega)]; exact hM n (by omega)⟩
theorem Evt.chk {p : Prop} [Decidable p] {x : Nat → Option α} (hp : p) (h : Evt x P) : Evt (fun n => chk p (x n)) P := by
  obtain ⟨r, hr, N, hN⟩ := h
  exact ⟨r, hr, N, fun n hn => by show Am.chk p (x n) = _; unfold Am.chk; rw [if_pos hp]; exact hN n hn⟩
theorem Evt.letM {a : α} {f : Nat → α → Option β} (h : Evt (fun n => f n a) Q) : Evt (fun n => letM a (f n)) Q := h
theorem Evt.cond {b : Bool} {x y : Nat → Option α} (h1 : b = true → Evt x P) (h2 : b = false → Evt y P) : Evt (fun n => bif b then x n else y n) P := by
  cases b
  · exact h2 rfl
  · exact h1 rfl
theorem Evt.gd {G : Bool} {x : Nat → Option α} {d : α} (h1 : G = true → Evt x P) (h2 : G = false → P d) : Evt (fun n => gd G (x n) d) P := by
  cases G
  · exact Evt.pure (h2 rfl)
  · exact h1 rfl
theorem Evt.thenM {x : Nat → Option (Ex ρ τ)} {k : Nat → τ → Option ρ} {P : Ex ρ τ → Prop} {Q : ρ → Prop} (h : Evt x P) (hn : ∀ t, P (.nxt t) → Evt (fun n => k n t) Q) (hr : ∀ r, P (.ret r) → Q r) :
    Evt (fun n => thenM (x n) (k n)) Q := by
  obtain ⟨e, he, N, hN⟩ := h
  cases e with
  | nxt t =>
    obtain ⟨s, hs, M, hM⟩ := hn t he
    exact ⟨s, hs, max N M, fun n hn => by simp only [hN n (by omega), Am.thenM]; exact hM n (by omega)⟩
  | ret r => exact ⟨r, hr r he, N, fun n hn => by simp only [hN n hn, Am.thenM]⟩

/-- what holds behind a round -/
def CtlP (I : σ → Prop) (B : τ → Prop) (R : ρ → Prop) : Ctl ρ σ τ → Prop
  | .nxt s => I s
  | .brk t => B t
  | .ret x => R x
def ExP (B : τ → Prop) (R : ρ → Prop) : Ex ρ τ → Prop
  | .nxt t => B t
  | .ret x => R x

theorem Evt.range {body : Nat → Nat → σ → Option (Ctl ρ σ σ)} {m : Nat} {s0 : σ} (I : Nat → σ → Prop) (B : σ → Prop) (R : ρ → Prop) (h0 : I 0 s0)
    (hs : ∀ k s, k < m → I k s → Evt (fun n => body n k s) (CtlP (I (k + 1)) B R)) :
    Evt (fun n => rangeM (body n) m s0) (ExP (fun s => I m s ∨ B s) R) := by
  unfold rangeM
  have key : ∀ j k s, k + j = m → I k s → Evt (fun n => rangeGo (body n) j k s) (ExP (fun s => I m s ∨ B s) R) := by
    intro j
    induction j with
    | zero =>
      intro k s e hi
      have : k = m := by omega
      subst this
      exact Evt.pure (.inl hi)
    | succ j ih =>
      intro k s e hi
      obtain ⟨c, hc, N, hN⟩ := hs k s (by omega) hi
      cases c with
      | nxt s' =>
        obtain ⟨r, hr, M, hM⟩ := ih (k + 1) s' (by omega) hc
        exact ⟨r, hr, max N M, fun n hn => by simp only [rangeGo, hN n (by omega)]; exact hM n (by omega)⟩
      | brk t => exact ⟨.nxt t, .inr hc, N, fun n hn => by simp only [rangeGo, hN n hn]⟩
      | ret x => exact ⟨.ret x, hc, N, fun n hn => by simp only [rangeGo, hN n hn]⟩
  exact key m 0 s0 (by omega) h0

theorem Evt.loop {body : Nat → σ → Option (Ctl ρ σ τ)} {s0 : σ} (mu : σ → Nat) (I : σ → Prop) (B : τ → Prop) (R : ρ → Prop) (h0 : I s0)
    (hs : ∀ s, I s → Evt (fun n => body n s) (CtlP (fun s' => I s' ∧ mu s' < mu s) B R)) :
    Evt (fun n => loopM (body n) n s0) (ExP B R) := by
  have key : ∀ d s, mu s ≤ d → I s → ∃ e, ExP B R e ∧ ∃ N, ∀ n, N ≤ n → ∀ f, d < f → loopM (body n) f s = some e := by
    intro d
    induction d with
    | zero =>
      intro s hd hi
      obtain ⟨c, hc, N, hN⟩ := hs s hi
      cases c with
      | nxt s' => exact absurd hc.2 (by omega)
      | brk t => refine ⟨.nxt t, hc, N, fun n hn f hf => ?_⟩; obtain ⟨g, rfl⟩ : ∃ g, f = g + 1 := ⟨f - 1, by omega⟩; simp only [loopM, hN n hn]
      | ret x => refine ⟨.ret x, hc, N, fun n hn f hf => ?_⟩; obtain ⟨g, rfl⟩ : ∃ g, f = g + 1 := ⟨f - 1, by omega⟩; simp only [loopM, hN n hn]
    | succ d ih =>
      intro s hd hi
      obtain ⟨c, hc, N, hN⟩ := hs s hi
      cases c with
      | nxt s' =>
        obtain ⟨e, he, M, hM⟩ := ih s' (by have := hc.2; omega) hc.1
        refine ⟨e, he, max N M, fun n hn f hf => ?_⟩
        obtain ⟨g, rfl⟩ : ∃ g, f = g + 1 := ⟨f - 1, by omega⟩
        simp only [loopM, hN n (by omega)]
        exact hM n (by omega) g (by omega)
      | brk t => refine ⟨.nxt t, hc, N, fun n hn f hf => ?_⟩; obtain ⟨g, rfl⟩ : ∃ g, f = g + 1 := ⟨f - 1, by omega⟩; simp only [loopM, hN n hn]
      | ret x => refine ⟨.ret x, hc, N, fun n hn f hf => ?_⟩; obtain ⟨g, rfl⟩ : ∃ g, f = g + 1 := ⟨f - 1, by omega⟩; simp only [loopM, hN n hn]
  obtain ⟨e, he, N, hN⟩ := key (mu s0) s0 (Nat.le_refl _) h0
  exact ⟨e, he, max N (mu s0 + 1), fun n hn => hN n (by omega) n (by omega)⟩
end
end Go.Am


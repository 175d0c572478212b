import Derived.Test.YtaohdfpcdfbnlaaGreatDoorAm3
import Derived.Test.YtaohdfpcdfbnlaaGreatDoorBase
import Derived.Test.YtaohdfpcdfbnlaaGreatDoorHand
import Derived.Test.YtaohdfpcdfbnlaaGreatDoorMirrors
import Derived.Test.YtaohdfpcdfbnlaaGreatDoorWalk11
set_option linter.unusedVariables false
set_option linter.unusedSimpArgs false
set_option maxHeartbeats 2000000
set_option maxRecDepth 100000
namespace Go.Proofs.YtaohdfpcdfbnlaaGreatDoor
open Go Go.Am
theorem gg (n : Nat) (a0 : u6) (a1 : u6) (r : Bool) (h : K8 n a0 a1 = some r) : Pure Tryz.prog gl 17 [.agg [.str a0.name, .sl false 2 32 (rows w8.cells a0.graph.nodes), .int .i64 a0.kids, .int .i64 a0.weight, .int .i64 a0.meaning.kind, .str a0.meaning.name, .int .i64 a0.meaning.index, .str a0.meaning.type.base, .sl false 2 40 (rows u0.cells a0.meaning.type.args), .sl false 6 96 (rows w5.cells a0.meaning.args)], .agg [.str a1.name, .sl false 2 32 (rows w8.cells a1.graph.nodes), .int .i64 a1.kids, .int .i64 a1.weight, .int .i64 a1.meaning.kind, .str a1.meaning.name, .int .i64 a1.meaning.index, .str a1.meaning.type.base, .sl false 2 40 (rows u0.cells a1.meaning.type.args), .sl false 6 96 (rows w5.cells a1.meaning.args)]] (.bool r) := by
 intro st
 unfold K8 at h
 refine O4 (N := 38) (rs := [.tmp 4]) (keep := [0, 1, 2, 3, 4, 11, 12, 13, 14, 15, 18, 19, 20, 21, 22, 25, 26, 27, 28, 29, 32, 33, 34, 35, 36]) Tryz.func17 rfl rfl rfl (by kernel_rfl) rfl fun hsc => ?_
 (repeat apply sq_); apply er_; simp only [go_sem]
 (repeat apply sq_); apply er_; simp only [go_sem]
 obtain ⟨v1, hv1, h⟩ := C6 h
 refine M6 (fun hG => (eS _ _ _ (iu hv1 (by simpa using hG)))) ?_
 try simp only [go_sem]
 obtain ⟨v2, hv2, h⟩ := C6 h
 refine M6 (fun hG => (jU n _ _ _ (iu hv2 (by simpa using hG)))) ?_
 try simp only [go_sem]
 (repeat apply sq_); refine E3 ?_
 try simp only [go_sem]
 have hr := Option.some.inj h
 refine E4 ?_; simp only [go_sem]
 exact y3 (d' := .bool (bif (bif (bif (bif (decide (a0.name = a1.name)) then (decide (a0.kids = a1.kids)) else false) then (decide (a0.weight = a1.weight)) else false) then v1 else false) then v2 else false)) hsc (.same _) (by simp) ⟨by subst hr; rfl, rfl⟩
theorem ly (n : Nat) (a0 : (List u6)) (a1 : (List u6)) (r : (List u7)) (h : Z9 n a0 a1 = some r) : Pure Tryz.prog gl 16 [.sl false 10 152 (rows u6.cells a0), .sl false 10 152 (rows u6.cells a1), .fn 17 [] []] (.sl false 3 40 (rows u7.cells r)) := by
 intro st
 unfold Z9 at h
 refine O4 (N := 229) (rs := [.tmp 6]) (keep := [0, 1, 2, 6, 7, 8, 9, 10, 20, 21, 22, 36, 43, 78, 11, 12, 13, 14, 108, 109, 110, 111, 112, 118, 119, 120, 121, 124, 125, 126, 127, 128, 129, 130, 131, 132, 133, 134, 148, 149, 150, 151, 154, 155, 156, 157, 158, 159, 160, 161, 162, 163, 164, 165, 166, 167, 168, 169, 170, 171, 172, 173, 174, 175, 176, 177, 183, 184, 185, 186, 187, 188, 189, 190, 191, 192, 193, 194, 195, 196, 197, 198, 199, 200, 201, 202, 203, 204, 205, 206]) Tryz.func16 rfl rfl rfl (by kernel_rfl) rfl fun hsc => ?_
 (repeat apply sq_); apply er_; simp only [go_sem]
 obtain ⟨v1, hv1, h⟩ := C6 h
 unfold pT at hv1
 obtain ⟨⟨ha1, hb1⟩, hv1⟩ := G1 hv1
 obtain ⟨oU, hv1⟩ := G1 hv1
 have hv1 := Option.some.inj hv1
 have hwa : wr .i64 ((↑a0.length : Int) + 1) = (↑(a0.length + 1) : Int) := kP (by unfold top at ha1; omega)
 have hwb : wr .i64 ((↑a1.length : Int) + 1) = (↑(a1.length + 1) : Int) := kP (by unfold top at hb1; omega)
 have ha2 : a0.length + 1 ≤ top := by omega
 have hb2 : a1.length + 1 ≤ top := by omega
 have ha3 : a0.length + 1 ≤ 9223372036854775807 := by unfold top at ha1; omega
 have hb3 : a1.length + 1 ≤ 9223372036854775807 := by unfold top at hb1; omega
 (repeat apply sq_); apply er_; simp only [go_sem, hwa, ha1, ha2]
 obtain ⟨zr, hzr⟩ : ∃ z, z = List.replicate (a1.length + 1) (0 : Int) := ⟨_, rfl⟩
 have e0 : [D.B4] :: List.replicate a0.length [D.B4] = fq st.length (a1.length + 1) (a0.length + 1) 0 := by rw [tO]; rfl
 simp only [e0]
 (repeat apply sq_); apply er_; simp only [go_sem]
 (repeat apply sq_); refine arg_ (ρ := Unit) (body := fun _ (s : Unit) => some (.nxt s)) (kk := fun s => some s) (n := a0.length + 1) (s0 := ()) (e := ())
  (fun (_ : Unit) (k0 : Nat) (_ : Unit) => [(0, .sl false 10 152 (rows u6.cells a0)), (1, .sl false 10 152 (rows u6.cells a1)), (2, .fn 17 [] []), (7, .ref true st.length 0 0 (a0.length + 1)), (20, .int .i64 (↑(a0.length + 1) : Int)), (21, .int .i64 (↑k0 : Int))])
  (fun (_ : Unit) (k0 : Nat) (_ : Unit) => st ++ (some (.arr 0 1 24 (fq st.length (a1.length + 1) (a0.length + 1) k0)) :: (zs k0 zr).map inn))
  (fun (_ : Unit) (_ : Unit) => [(0, .sl false 10 152 (rows u6.cells a0)), (1, .sl false 10 152 (rows u6.cells a1)), (2, .fn 17 [] []), (7, .ref true st.length 0 0 (a0.length + 1))])
  (fun (_ : Unit) (_ : Unit) => st ++ (some (.arr 0 1 24 (fq st.length (a1.length + 1) (a0.length + 1) (a0.length + 1))) :: (zs (a0.length + 1) zr).map inn))
  () (iw _ _) (cI hsc (by rw [nO]; omega) ⟨.s, .s, .s, .s, .s, .s, trivial⟩ (by simp))
  (fun _ k0 _ b0 hk0 hb0 _ => ?_) (fun _ _ => ?_) (fun _ _ fr1 st1 _ hb => ?_)
 ·cases hb0
  have hw0 : wr .i64 ((↑k0 : Int) + 1) = (↑(k0 + 1) : Int) := nY hk0 ha3
  (repeat apply sq_); apply er_; simp only [go_sem]
  (repeat apply sq_); refine D4 (by rfl) (fun hc => ?_) fun hc => ?_
  ·refine E6 ?_; try simp only [go_sem]
   (repeat apply sq_); refine U8 ?_
   (repeat apply sq_); apply er_; simp only [go_sem]
   have eo0 : (fq st.length (a1.length + 1) (a0.length + 1) k0).length = a0.length + 1 := gE (by omega)
   have eo1 : (fq st.length (a1.length + 1) (a0.length + 1) k0).getD k0 [] = [.B4] := xJ (Nat.le_refl _) hk0
   have eo2 : (fq st.length (a1.length + 1) (a0.length + 1) k0).set k0 [.ref true (st.length + (k0 + 1)) 0 0 (a1.length + 1)] = fq st.length (a1.length + 1) (a0.length + 1) (k0 + 1) := xI hk0
   have ez : [D.int .i64 0] :: List.replicate a1.length [D.int .i64 0] = rows O1 zr := by rw [hzr]; simp [rows, O1, List.replicate_succ]
   (repeat apply sq_); apply er_; simp only [go_sem, hwb, hb1, hb2, List.length_map, nO, eo0, eo1, eo2, hk0, Nat.zero_add, ez, Ar, Av]
   (repeat apply sq_); apply er_; simp only [go_sem, hw0]
   exact bK () (cI hsc (by rw [nO]; omega) ⟨.s, .s, .s, .s, .s, .s, trivial⟩ (by simp))
  ·exfalso; first | exact Bool.noConfusion hc | (have hc := of_decide_eq_false hc; omega)
 ·(repeat apply sq_); apply er_; simp only [go_sem]
  (repeat apply sq_); refine D4 (by rfl) (fun hc => ?_) fun hc => ?_
  ·exfalso; first | exact Bool.noConfusion hc | (have hc := of_decide_eq_true hc; omega)
  ·refine Y2 ?_; simp only [go_sem]
   exact ⟨(), cI hsc (by rw [nO]; omega) ⟨.s, .s, .s, .s, trivial⟩ (by simp)⟩
 try simp only [go_sem]
 refine L6 hb ?_
 obtain ⟨same, hsm⟩ : ∃ f, f = fun x y => (K8 n x y).getD false := ⟨_, rfl⟩
 rw [← hsm] at hv1
 have ezz : zs (a0.length + 1) zr = Lcs.tb a0.length a1.length (Lcs.pf same a0 a1 a0.length 0) := by rw [hzr]; exact (Lcs.uq same a0 a1).symm
 simp only [ezz]
 have Iy : wr .i64 ((↑a0.length : Int) - 1) = ↑a0.length - 1 := W0 (by omega) (by omega)
 have Iz : wr .i64 ((↑a1.length : Int) - 1) = ↑a1.length - 1 := W0 (by omega) (by omega)
 have go : (fq st.length (a1.length + 1) (a0.length + 1) (a0.length + 1)).length = a0.length + 1 := gE (Nat.le_refl _)
 (repeat apply sq_); apply er_; simp only [go_sem, Iy]
 (repeat apply sq_); refine arg_ (ρ := Unit) (body := fun _ (s : Unit) => some (.nxt s)) (kk := fun s => some s) (n := a0.length) (s0 := ()) (e := ())
  (fun (_ : Unit) (k1 : Nat) (_ : Unit) => [(0, .sl false 10 152 (rows u6.cells a0)), (1, .sl false 10 152 (rows u6.cells a1)), (2, .fn 17 [] []), (7, .ref true st.length 0 0 (a0.length + 1)), (9, .int .i64 (↑a0.length - 1 - ↑k1))])
  (fun (_ : Unit) (k1 : Nat) (_ : Unit) => st ++ (some (.arr 0 1 24 (fq st.length (a1.length + 1) (a0.length + 1) (a0.length + 1))) :: (Lcs.tb a0.length a1.length (Lcs.pf same a0 a1 (a0.length - k1) 0)).map inn))
  (fun (_ : Unit) (_ : Unit) => [(0, .sl false 10 152 (rows u6.cells a0)), (1, .sl false 10 152 (rows u6.cells a1)), (2, .fn 17 [] []), (7, .ref true st.length 0 0 (a0.length + 1))])
  (fun (_ : Unit) (_ : Unit) => st ++ (some (.arr 0 1 24 (fq st.length (a1.length + 1) (a0.length + 1) (a0.length + 1))) :: (Lcs.tb a0.length a1.length (Lcs.pf same a0 a1 0 0)).map inn))
  () (iw _ _) (cI hsc (by rw [Lcs.cV]; omega) ⟨.s, .s, .s, .s, jh (congrArg (D.int .i64) (by omega)), trivial⟩ (by simp))
  (fun _ k1 _ b1 hk1 hb1 _ => ?_) (fun _ _ => ?_) (fun _ _ fr2 st2 _ hb2 => ?_)
 ·cases hb1
  obtain ⟨i, hi⟩ : ∃ i, a0.length = i + 1 + k1 := ⟨a0.length - 1 - k1, by omega⟩
  have e9 : ((↑a0.length : Int) - 1 - ↑k1) = ↑i := by omega
  have eT : a0.length - k1 = i + 1 := by omega
  have en : Lcs.tb a0.length a1.length (Lcs.pf same a0 a1 (i + 1) 0) = Lcs.tb a0.length a1.length (Lcs.pf same a0 a1 i a1.length) := Lcs.ur same a0 a1
  have hwi : wr .i64 ((↑i : Int) + 1) = ↑(i + 1) := kP (by omega)
  have hwj : wr .i64 ((↑i : Int) - 1) = ↑i - 1 := W0 (by omega) (by omega)
  simp only [e9, eT, en]
  (repeat apply sq_); apply er_; simp only [go_sem]
  (repeat apply sq_); refine D4 (by rfl) (fun hc => ?_) fun hc => ?_
  ·refine E6 ?_; try simp only [go_sem]
   (repeat apply sq_); refine U8 ?_
   (repeat apply sq_); apply er_; simp only [go_sem, Iz]
   (repeat apply sq_); refine arg_ (ρ := Unit) (body := fun _ (s : Unit) => some (.nxt s)) (kk := fun s => some s) (n := a1.length) (s0 := ()) (e := ())
    (fun (_ : Unit) (k2 : Nat) (_ : Unit) => [(0, .sl false 10 152 (rows u6.cells a0)), (1, .sl false 10 152 (rows u6.cells a1)), (2, .fn 17 [] []), (7, .ref true st.length 0 0 (a0.length + 1)), (9, .int .i64 ↑i), (10, .int .i64 (↑a1.length - 1 - ↑k2))])
    (fun (_ : Unit) (k2 : Nat) (_ : Unit) => st ++ (some (.arr 0 1 24 (fq st.length (a1.length + 1) (a0.length + 1) (a0.length + 1))) :: (Lcs.tb a0.length a1.length (Lcs.pf same a0 a1 i (a1.length - k2))).map inn))
    (fun (_ : Unit) (_ : Unit) => [(0, .sl false 10 152 (rows u6.cells a0)), (1, .sl false 10 152 (rows u6.cells a1)), (2, .fn 17 [] []), (7, .ref true st.length 0 0 (a0.length + 1)), (9, .int .i64 ↑i)])
    (fun (_ : Unit) (_ : Unit) => st ++ (some (.arr 0 1 24 (fq st.length (a1.length + 1) (a0.length + 1) (a0.length + 1))) :: (Lcs.tb a0.length a1.length (Lcs.pf same a0 a1 i 0)).map inn))
    () (iw _ _) (cI hsc (by rw [Lcs.cV]; omega) ⟨.s, .s, .s, .s, .s, jh (congrArg (D.int .i64) (by omega)), trivial⟩ (by simp))
    (fun _ k2 _ b2 hk2 hb2 _ => ?_) (fun _ _ => ?_) (fun _ _ fr2 st2 _ hb2 => ?_)
   ·cases hb2
    obtain ⟨k, hk⟩ : ∃ k, a1.length = k + 1 + k2 := ⟨a1.length - 1 - k2, by omega⟩
    have e10 : ((↑a1.length : Int) - 1 - ↑k2) = ↑k := by omega
    have eT2 : a1.length - k2 = k + 1 := by omega
    have hwk : wr .i64 ((↑k : Int) + 1) = ↑(k + 1) := kP (by omega)
    have hwl : wr .i64 ((↑k : Int) - 1) = ↑k - 1 := W0 (by omega) (by omega)
    simp only [e10, eT2]
    (repeat apply sq_); apply er_; simp only [go_sem]
    (repeat apply sq_); refine D4 (by rfl) (fun hc => ?_) fun hc => ?_
    ·refine E6 ?_; try simp only [go_sem]
     (repeat apply sq_); refine U8 ?_
     have g1 : (fq st.length (a1.length + 1) (a0.length + 1) (a0.length + 1)).getD i [] = [.ref true (st.length + (i + 1)) 0 0 (a1.length + 1)] := lU (by omega)
     have g2 : (fq st.length (a1.length + 1) (a0.length + 1) (a0.length + 1)).getD (i + 1) [] = [.ref true (st.length + (i + 1 + 1)) 0 0 (a1.length + 1)] := lU (by omega)
     have l1 : ∀ f, Go.Am.look ((Lcs.tb a0.length a1.length f).map inn) i = some (.arr 0 1 8 (rows O1 (jz a1.length f i))) := fun f => su (by omega)
     have l2 : ∀ f, Go.Am.look ((Lcs.tb a0.length a1.length f).map inn) (i + 1) = some (.arr 0 1 8 (rows O1 (jz a1.length f (i + 1)))) := fun f => su (by omega)
     have c1 : ∀ f x, (rows O1 (jz a1.length f x)).getD k [] = [.int .i64 (f x k)] := fun f x => oE (by omega)
     have c2 : ∀ f x, (rows O1 (jz a1.length f x)).getD (k + 1) [] = [.int .i64 (f x (k + 1))] := fun f x => oE (by omega)
     have s1 : ∀ f v, ((Lcs.tb a0.length a1.length f).map inn).set i (some (.arr 0 1 8 ((rows O1 (jz a1.length f i)).set k [.int .i64 v]))) = (Lcs.tb a0.length a1.length (yJ f i k v)).map inn := fun f v => tR (by omega)
     have b1 : i < a0.length + 1 := by omega
     have b2 : i + 1 < a0.length + 1 := by omega
     have b3 : k < a1.length + 1 := by omega
     have b4 : k + 1 < a1.length + 1 := by omega
     (repeat apply sq_); refine ak [] 0 follows (by kernel_rfl) (by rfl) ?_; simp only [go_sem, List.replicate_succ, List.replicate_zero, hwi, hwk, g1, g2, l1, l2, c1, c2, s1, b1, b2, b3, b4, go, lV, Nat.zero_add, Lcs.xV, Lcs.xW]
     have hsa : ∃ w, K8 n (Am.get a0 i) (Am.get a1 k) = some w := Option.isSome_iff_exists.1 (List.all_eq_true.1 (List.all_eq_true.1 oU _ (iL (by omega))) _ (iL (by omega)))
     obtain ⟨w, hw⟩ := hsa
     have hsw : same a0[i] a1[k] = w := by
      have ea : Am.get a0 i = a0[i] := by simp [Am.get, show i < a0.length by omega]
      have eb : Am.get a1 k = a1[k] := by simp [Am.get, show k < a1.length by omega]
      rw [hsm, ← ea, ← eb]
      show (K8 n (Am.get a0 i) (Am.get a1 k)).getD false = w
      rw [hw]; rfl
     have hlc := Lcs.AL same a0 a1 (i := i) (k := k) (by omega) (by omega)
     rw [hsw] at hlc
     have d1 : i < a0.length := by omega
     have d2 : k < a1.length := by omega
     (repeat apply sq_); refine ak [] 0 follows (by kernel_rfl) (by rfl) ?_; simp only [go_sem, List.replicate_zero, d1, d2]
     refine A0 (gg n _ _ _ hw) ?_
     try simp only [go_sem, d1, d2]
     have eT4 : a1.length - (k2 + 1) = k := by omega
     (repeat apply sq_); refine D4 (by rfl) (fun hc => ?_) fun hc => ?_
     ·have hc : w = true := hc
      rw [hc, cond_true] at hlc
      have hC := Lcs.uo same a0 a1 (i + 1) (k + 1)
      have hC2 := Lcs.Gm same a0 a1 (i + 1) (k + 1)
      have hwc : wr .i64 (Lcs.lc same a0 a1 (i + 1) (k + 1) + 1) = Lcs.lc same a0 a1 (i + 1) (k + 1) + 1 := W0 (by omega) (by omega)
      (repeat apply sq_); refine ak [] 0 follows (by kernel_rfl) (by rfl) ?_; simp only [go_sem, List.replicate_zero, hwi, hwk, g1, g2, l1, l2, c1, c2, s1, b1, b2, b3, b4, go, lV, Nat.zero_add, Aw, xL, Lcs.xV, Lcs.xW, hwc, tS]
      (repeat apply sq_); apply er_; simp only [go_sem, hwl]
      refine bK () ?_
      simp only [eT4, oF d1 hlc.symm]
      exact cI hsc (by rw [Lcs.cV]; omega) ⟨.s, .s, .s, .s, .s, jh (congrArg (D.int .i64) (by omega)), trivial⟩ (by simp)
     ·have hc : w = false := hc
      rw [hc, cond_false] at hlc
      refine E6 ?_; try simp only [go_sem]
      (repeat apply sq_); apply er_; simp only [go_sem, hwl]
      refine bK () ?_
      simp only [eT4, oF d1 hlc.symm]
      exact cI hsc (by rw [Lcs.cV]; omega) ⟨.s, .s, .s, .s, .s, jh (congrArg (D.int .i64) (by omega)), trivial⟩ (by simp)
    ·exfalso; first | exact Bool.noConfusion hc | (have hc := of_decide_eq_false hc; omega)
   ·(repeat apply sq_); apply er_; simp only [go_sem]
    (repeat apply sq_); refine D4 (by rfl) (fun hc => ?_) fun hc => ?_
    ·exfalso; first | exact Bool.noConfusion hc | (have hc := of_decide_eq_true hc; omega)
    ·refine Y2 ?_; simp only [go_sem, Nat.sub_self]
     exact ⟨(), cI hsc (by rw [Lcs.cV]; omega) ⟨.s, .s, .s, .s, .s, trivial⟩ (by simp)⟩
   ·try simp only [go_sem]
    refine L6 hb2 ?_
    (repeat apply sq_); apply er_; simp only [go_sem, hwj]
    have eT3 : a0.length - (k1 + 1) = i := by omega
    refine bK () ?_
    simp only [eT3]
    exact cI hsc (by rw [Lcs.cV]; omega) ⟨.s, .s, .s, .s, jh (congrArg (D.int .i64) (by omega)), trivial⟩ (by simp)
  ·exfalso; first | exact Bool.noConfusion hc | (have hc := of_decide_eq_false hc; omega)
 ·(repeat apply sq_); apply er_; simp only [go_sem]
  (repeat apply sq_); refine D4 (by rfl) (fun hc => ?_) fun hc => ?_
  ·exfalso; first | exact Bool.noConfusion hc | (have hc := of_decide_eq_true hc; omega)
  ·refine Y2 ?_; simp only [go_sem, Nat.sub_self]
   exact ⟨(), cI hsc (by rw [Lcs.cV]; omega) ⟨.s, .s, .s, .s, trivial⟩ (by simp)⟩
 try simp only [go_sem]
 refine L6 hb2 ?_
 have IB : Lcs.tb a0.length a1.length (Lcs.pf same a0 a1 0 0) = v1 := (Lcs.xX same a0 a1).trans hv1
 simp only [IB]
 refine L6 (xK hsc (by rw [← hv1]; intro r hr; obtain ⟨x, _, rfl⟩ := List.mem_map.1 hr; simp) (by rw [← hv1]; exact Lcs.cV ..) (by simp) (by simp) (by simp)) ?_
 (repeat apply sq_); apply er_; simp only [go_sem]
 (repeat apply sq_); apply er_; simp only [go_sem]
 (repeat apply sq_); refine Z7 3 40 ?_
 try simp only [List.append_assoc, List.cons_append, List.nil_append]
 refine L6 (F := [(0, .sl false 10 152 (rows u6.cells a0)), (1, .sl false 10 152 (rows u6.cells a1)), (2, .fn 17 [] []), (7, .sl false 1 24 (rows (slc 1 8 O1) v1)), (11, .ref false st.length 0 0 0), (12, .int .i64 0), (13, .int .i64 0)]) (T := st ++ [some (.arr 0 3 40 (rows u7.cells []))]) (G0 hsc (.lv (.nil _)) (by simp) ⟨.s, .s, .s, .s, .nref _ _ _ _ _ _ (lS.trans rfl), .s, .s, trivial⟩ (by simp)) ?_
 (repeat apply sq_); refine O5 (body := Z4 n a0 a1 v1) (kk := cD) (n := n) (s0 := ([], 0, 0))
  (fun (gs0 : Nat) (s0 : (List u7) × Int × Int) => [(0, .sl false 10 152 (rows u6.cells a0)), (1, .sl false 10 152 (rows u6.cells a1)), (2, .fn 17 [] []), (7, .sl false 1 24 (rows (slc 1 8 O1) v1)), (11, .ref false st.length gs0 0 s0.1.length), (12, .int .i64 s0.2.1), (13, .int .i64 s0.2.2)])
  (fun (gs0 : Nat) (s0 : (List u7) × Int × Int) => st ++ [some (.arr gs0 3 40 (rows u7.cells s0.1))])
  (fun (gt0 : Nat) (t0 : (List u7)) => [(11, .ref false st.length gt0 0 t0.length)])
  (fun (gt0 : Nat) (t0 : (List u7)) => st ++ [some (.arr gt0 3 40 (rows u7.cells t0))])
  0 h (G0 hsc (.lv (.nil _)) (by simp) ⟨.s, .s, .s, .s, .s, .s, .s, trivial⟩ (by simp))
  (fun gs0 s0 b0 h hx0 => ?_) (fun gt0 t0 fr1 st1 h hb => ?_)
 ·unfold Z4 at h
  (repeat apply sq_); apply er_; simp only [go_sem]
  (repeat apply sq_); refine D4 (by rfl) (fun hc => ?_) fun hc => ?_
  ·replace h := B0 h (by first | exact hc | simpa using hc)
   refine E6 ?_; try simp only [go_sem]
   (repeat apply sq_); refine U8 ?_
   (repeat apply sq_); apply er_; simp only [go_sem]
   (repeat apply sq_); refine O5 (body := R3 n a0 a1) (kk := Z2 n a0 a1 v1 s0) (n := n) (s0 := (0, s0.2.1, s0.2.2))
    (fun (gs3 : Unit) (s3 : Int × Int × Int) => [(0, .sl false 10 152 (rows u6.cells a0)), (1, .sl false 10 152 (rows u6.cells a1)), (2, .fn 17 [] []), (7, .sl false 1 24 (rows (slc 1 8 O1) v1)), (11, .ref false st.length gs0 0 s0.1.length), (12, .int .i64 s3.2.1), (13, .int .i64 s3.2.2), (14, .ptr (st.length + 1) 0 0 0)])
    (fun (gs3 : Unit) (s3 : Int × Int × Int) => st ++ [some (.arr gs0 3 40 (rows u7.cells s0.1)), some (.arr 0 3 0 [[.int .i64 s3.1, .int .i64 0, .B4]])])
    (fun (gt3 : Unit) (t3 : Int × Int × Int) => [(0, .sl false 10 152 (rows u6.cells a0)), (1, .sl false 10 152 (rows u6.cells a1)), (2, .fn 17 [] []), (7, .sl false 1 24 (rows (slc 1 8 O1) v1)), (11, .ref false st.length gs0 0 s0.1.length), (12, .int .i64 t3.2.1), (13, .int .i64 t3.2.2), (14, .ptr (st.length + 1) 0 0 0)])
    (fun (gt3 : Unit) (t3 : Int × Int × Int) => st ++ [some (.arr gs0 3 40 (rows u7.cells s0.1)), some (.arr 0 3 0 [[.int .i64 t3.1, .int .i64 0, .B4]])])
    () h (G0 hsc (.lv (.lv (.nil _))) (by simp) ⟨.s, .s, .s, .s, .s, .s, .s, .s, trivial⟩ (by simp))
    (fun gs3 s3 b3 h hx3 => ?_) (fun gt3 t3 fr1 st1 h hb => ?_)
   ·unfold R3 at h
    obtain ⟨⟨f78, f79⟩, h⟩ := G1 h
    obtain ⟨⟨f81, f82⟩, h⟩ := G1 h
    (repeat apply sq_); refine ak [] 0 follows (by kernel_rfl) (by rfl) ?_; simp only [go_sem, List.replicate_succ, List.replicate_zero, f78, f79, f81, f82]
    obtain ⟨v83, hv83, h⟩ := C6 h
    refine Y3 (fun hG => (gg n _ _ _ (iu hv83 (by simpa using hG)))) ?_
    try simp only [go_sem, f78, f79, f81, f82]
    (repeat apply sq_); refine D4 (by rfl) (fun hc => ?_) fun hc => ?_
    ·replace h := B0 h (by first | exact hc | simpa using hc)
     refine E6 ?_; try simp only [go_sem, f78, f79, f81, f82]
     (repeat apply sq_); refine U8 ?_
     (repeat apply sq_); apply er_; simp only [go_sem, f78, f79, f81, f82]
     cases h
     exact U4 () (G0 hsc (.lv (.lv (.nil _))) (by simp) ⟨.s, .s, .s, .s, .s, .s, .s, .s, trivial⟩ (by simp))
    ·replace h := B1 h (by first | exact hc | simpa using hc)
     (repeat apply sq_); refine Y2 ?_; try simp only [go_sem, f78, f79, f81, f82]
     cases h
     exact bL () (G0 hsc (.lv (.lv (.nil _))) (by simp) ⟨.s, .s, .s, .s, .s, .s, .s, .s, trivial⟩ (by simp))
   ·try simp only [go_sem]
    unfold Z2 at h
    refine L6 hb ?_
    (repeat apply sq_); refine Z7 10 152 ?_
    try simp only [List.append_assoc, List.cons_append, List.nil_append]
    refine L6 (F := [(0, .sl false 10 152 (rows u6.cells a0)), (1, .sl false 10 152 (rows u6.cells a1)), (2, .fn 17 [] []), (7, .sl false 1 24 (rows (slc 1 8 O1) v1)), (11, .ref false st.length gs0 0 s0.1.length), (12, .int .i64 t3.2.1), (13, .int .i64 t3.2.2), (14, .ptr (st.length + 1) 0 0 0)]) (T := st ++ [some (.arr gs0 3 40 (rows u7.cells s0.1)), some (.arr 0 3 0 [[.int .i64 t3.1, .int .i64 0, .ref false (st.length + 2) 0 0 0]]), some (.arr 0 10 152 (rows u6.cells []))]) (G0 hsc (.lv (.live _ _ _ _ (.arr _ _ _ _ _ (.cons _ _ _ _ (.cons _ _ _ _ .s (.cons _ _ _ _ .s (.cons _ _ _ _ (.nref _ _ _ _ _ _ (dH.trans rfl)) .nil))) (.same _))) (.lv (.nil _)))) (by simp) ⟨.s, .s, .s, .s, .s, .s, .s, .s, trivial⟩ (by simp)) ?_
    (repeat apply sq_); refine O5 (body := R4 n a0 a1 v1) (kk := Z1 s0 t3) (n := n) (s0 := (0, [], t3.2.1, t3.2.2))
     (fun (gs4 : Nat) (s4 : Int × (List u6) × Int × Int) => [(0, .sl false 10 152 (rows u6.cells a0)), (1, .sl false 10 152 (rows u6.cells a1)), (2, .fn 17 [] []), (7, .sl false 1 24 (rows (slc 1 8 O1) v1)), (11, .ref false st.length gs0 0 s0.1.length), (12, .int .i64 s4.2.2.1), (13, .int .i64 s4.2.2.2), (14, .ptr (st.length + 1) 0 0 0)])
     (fun (gs4 : Nat) (s4 : Int × (List u6) × Int × Int) => st ++ [some (.arr gs0 3 40 (rows u7.cells s0.1)), some (.arr 0 3 0 [[.int .i64 t3.1, .int .i64 s4.1, .ref false (st.length + 2) gs4 0 s4.2.1.length]]), some (.arr gs4 10 152 (rows u6.cells s4.2.1))])
     (fun (gt4 : Nat) (t4 : Int × (List u6) × Int × Int) => [(0, .sl false 10 152 (rows u6.cells a0)), (1, .sl false 10 152 (rows u6.cells a1)), (2, .fn 17 [] []), (7, .sl false 1 24 (rows (slc 1 8 O1) v1)), (11, .ref false st.length gs0 0 s0.1.length), (12, .int .i64 t4.2.2.1), (13, .int .i64 t4.2.2.2), (14, .ptr (st.length + 1) 0 0 0)])
     (fun (gt4 : Nat) (t4 : Int × (List u6) × Int × Int) => st ++ [some (.arr gs0 3 40 (rows u7.cells s0.1)), some (.arr 0 3 0 [[.int .i64 t3.1, .int .i64 t4.1, .ref false (st.length + 2) gt4 0 t4.2.1.length]]), some (.arr gt4 10 152 (rows u6.cells t4.2.1))])
     0 h (G0 hsc (.lv (.lv (.lv (.nil _)))) (by simp) ⟨.s, .s, .s, .s, .s, .s, .s, .s, trivial⟩ (by simp))
     (fun gs4 s4 b4 h hx4 => ?_) (fun gt4 t4 fr1 st1 h hb => ?_)
    ·unfold R4 at h
     obtain ⟨⟨f112, f113⟩, h⟩ := G1 h
     obtain ⟨⟨f115, f116⟩, h⟩ := G1 h
     (repeat apply sq_); refine ak [] 0 follows (by kernel_rfl) (by rfl) ?_; simp only [go_sem, List.replicate_succ, List.replicate_zero, f112, f113, f115, f116]
     obtain ⟨v117, hv117, h⟩ := C6 h
     refine Y3 (fun hG => (gg n _ _ _ (iu hv117 (by simpa using hG)))) ?_
     try simp only [go_sem, f112, f113, f115, f116]
     (repeat apply sq_); refine D4 (by rfl) (fun hc => ?_) fun hc => ?_
     ·replace h := B0 h (by first | exact hc | simpa using hc)
      refine E6 ?_; try simp only [go_sem, f112, f113, f115, f116]
      (repeat apply sq_); refine U8 ?_
      obtain ⟨⟨f119, f120⟩, h⟩ := G1 h
      obtain ⟨⟨f122, f123⟩, h⟩ := G1 h
      obtain ⟨⟨f125, f126⟩, h⟩ := G1 h
      obtain ⟨⟨f128, f129⟩, h⟩ := G1 h
      (repeat apply sq_); refine ak [] 0 follows (by kernel_rfl) (by rfl) ?_; simp only [go_sem, List.replicate_succ, List.replicate_zero, f112, f113, f115, f116, f119, f120, f122, f123, f125, f126, f128, f129]
      (repeat apply sq_); refine D4 (by rfl) (fun hc => ?_) fun hc => ?_
      ·replace h := B0 h (by first | exact hc | simpa using hc)
       (repeat apply sq_); apply er_; simp only [go_sem, f112, f113, f115, f116, f119, f120, f122, f123, f125, f126, f128, f129]
       cases h
       exact U4 gs4 (G0 hsc (.lv (.lv (.lv (.nil _)))) (by simp) ⟨.s, .s, .s, .s, .s, .s, .s, .s, trivial⟩ (by simp))
      ·replace h := B1 h (by first | exact hc | simpa using hc)
       obtain ⟨⟨f130, f131⟩, h⟩ := G1 h
       have e132 : (152 ≤ top) = True := by simp [top]
       obtain ⟨c133, Bp, h⟩ := lD h
       have e134 : rows u6.cells s4.2.1 ++ [[.str ((get a1 s4.2.2.2.toNat).name), .sl false 2 32 (rows w8.cells ((get a1 s4.2.2.2.toNat).graph.nodes)), .int .i64 ((get a1 s4.2.2.2.toNat).kids), .int .i64 ((get a1 s4.2.2.2.toNat).weight), .int .i64 ((get a1 s4.2.2.2.toNat).meaning.kind), .str ((get a1 s4.2.2.2.toNat).meaning.name), .int .i64 ((get a1 s4.2.2.2.toNat).meaning.index), .str ((get a1 s4.2.2.2.toNat).meaning.type.base), .sl false 2 40 (rows u0.cells ((get a1 s4.2.2.2.toNat).meaning.type.args)), .sl false 6 96 (rows w5.cells ((get a1 s4.2.2.2.toNat).meaning.args))]] = rows u6.cells c133 := by rw [Bp]; first | exact L5 (E := u6.cells) s4.2.1 [(get a1 s4.2.2.2.toNat)] | simp only [go_sem, rows, List.map_append, List.map_cons, List.map_nil]
       have e135 : s4.2.1.length + 1 = c133.length := by rw [Bp]; simp
       obtain ⟨⟨f136, f137⟩, h⟩ := G1 h
       (repeat apply sq_); refine ak [] 2 follows (by kernel_rfl) (by rfl) ?_; simp only [go_sem, List.replicate_succ, List.replicate_zero, f112, f113, f115, f116, f119, f120, f122, f123, f125, f126, f128, f129, f130, f131, f136, f137, e132, e134, e135]
       cases h
       exact U4 (gs4 + 1) (G0 hsc (.lv (.lv (.lv (.nil _)))) (by simp) ⟨.s, .s, .s, .s, .s, .s, .s, .s, trivial⟩ (by simp))
     ·replace h := B1 h (by first | exact hc | simpa using hc)
      (repeat apply sq_); refine Y2 ?_; try simp only [go_sem, f112, f113, f115, f116]
      cases h
      exact bL gs4 (G0 hsc (.lv (.lv (.lv (.nil _)))) (by simp) ⟨.s, .s, .s, .s, .s, .s, .s, .s, trivial⟩ (by simp))
    ·try simp only [go_sem]
     unfold Z1 at h
     refine L6 hb ?_
     have e138 : (40 ≤ top) = True := by simp [top]
     obtain ⟨⟨f139, f140⟩, h⟩ := G1 h
     (repeat apply sq_); apply er_; simp only [go_sem, f139, f140, e138]
     cases h
     exact U4 (gs0 + 1) (G0 hsc (.live _ _ _ _ (.arr _ _ _ _ _ (dI (.cons _ _ _ _ (.cons _ _ _ _ .s (.cons _ _ _ _ .s (.cons _ _ _ _ (.ref _ _ _ _ _ _ _ _ _ (dH.trans rfl) (bT (by first | decide | simp)) (by decide) (kB _) (by simp only [go_sem])) .nil))) .nil))) (.nil _)) (by simp) ⟨.s, .s, .s, .s, jh (by first | (simp; done) | simp [Fr.get]), .s, .s, trivial⟩ (by simp))
  ·replace h := B1 h (by first | exact hc | simpa using hc)
   (repeat apply sq_); refine Y2 ?_; try simp only [go_sem]
   cases h
   exact bL gs0 (G0 hsc (.lv (.nil _)) (by simp) ⟨.s, trivial⟩ (by simp))
 ·try simp only [go_sem]
  unfold cD at h
  refine L6 hb ?_
  (repeat apply sq_); apply er_; simp only [go_sem]
  (repeat apply sq_); refine E3 ?_
  try simp only [go_sem]
  have hr := Option.some.inj h
  refine E4 ?_; simp only [go_sem]
  exact y3 (d' := .sl false 3 40 (rows u7.cells t0)) hsc (.ref _ _ _ _ _ _ _ _ _ (lS.trans rfl) pL (by decide) (kB _) (by simp only [go_sem])) (by simp) ⟨by subst hr; rfl, rfl⟩
end Go.Proofs.YtaohdfpcdfbnlaaGreatDoor

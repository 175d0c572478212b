import Derived.Test.YtaohdfpcdfbnlaaGreatDoorLcs
import Derived.Test.YtaohdfpcdfbnlaaGreatDoorData
import Derived.Test.YtaohdfpcdfbnlaaGreatDoorHand
set_option linter.unusedVariables false
set_option linter.unusedSimpArgs false
namespace Go.Proofs.YtaohdfpcdfbnlaaGreatDoor
open Go Go.Am
def J1 (a0 : Bs) : Option (u0) :=
 some (u0.mk a0 [])
def D1 (a0 : u0) (a1 : u0) : Option (u0) :=
 some (u0.mk [] [a0, a1])
def M9 (a1 : (List Int)) (a0 : (List Bs)) (k0 : Nat) (s0 : (List w7)) : Option (Ctl (w4) ((List w7)) ((List w7))) :=
 bif (decide (0 < (↑k0 : Int))) then
  chk ((↑k0 : Int) < (↑a1.length : Int)) <|
  eV (s0 ++ [(w7.mk (get a0 k0) [(get a1 k0)])]) fun c14 =>
  chk (c14.length * 40 ≤ top ∧ c14.length ≤ top) <|
  some (.nxt c14)
 else
  chk ((s0.length + 1) * 40 ≤ top ∧ s0.length + 1 ≤ top) <|
  some (.nxt (s0 ++ [(w7.mk (get a0 k0) [])]))
def N0 (a2 : (List x9)) (t0 : (List w7)) : Option (w4) :=
 some (w4.mk t0 a2)
def Q6 (a0 : (List Bs)) (a1 : (List Int)) (a2 : (List x9)) : Option (w4) :=
 E0 (F0 (M9 a1 a0) a0.length []) (N0 a2)
def y6 (a0 : Int) : Option (w5) :=
 some (w5.mk 2 [] a0 (u0.mk [] []) [])
def B8 (a0 : w5) (a1 : w5) : Option (w5) :=
 some (w5.mk 4 [] 0 (u0.mk [] []) [a0, a1])
def A8 (a0 : u0) (a1 : w5) : Option (w5) :=
 some (w5.mk 3 [] 0 a0 [a1])
def W4 (a0 : Bool) : Option ((List w5)) :=
 (J1 [101]).bind fun v1 =>
 (J1 [116]).bind fun v2 =>
 (D1 v1 v2).bind fun v3 =>
 (D1 v3 v2).bind fun v4 =>
 (D1 v1 v3).bind fun v5 =>
 (D1 v3 v4).bind fun v6 =>
 (y6 1).bind fun v7 =>
 (y6 0).bind fun v8 =>
 (B8 v7 v8).bind fun v9 =>
 (A8 v3 v9).bind fun v10 =>
 (A8 v4 v10).bind fun v11 =>
 (y6 1).bind fun v12 =>
 (y6 0).bind fun v13 =>
 (B8 v12 v13).bind fun v14 =>
 (A8 v3 v14).bind fun v15 =>
 (A8 v6 v15).bind fun v16 =>
 (y6 0).bind fun v17 =>
 (A8 v3 v17).bind fun v18 =>
 (y6 1).bind fun v19 =>
 (y6 3).bind fun v20 =>
 (y6 1).bind fun v21 =>
 (B8 v20 v21).bind fun v22 =>
 (y6 0).bind fun v23 =>
 (B8 v22 v23).bind fun v24 =>
 (A8 v1 v24).bind fun v25 =>
 (B8 v19 v25).bind fun v26 =>
 (A8 v1 v26).bind fun v27 =>
 (A8 v4 v27).bind fun v28 =>
 (A8 v5 v28).bind fun v29 =>
 (D1 v2 v2).bind fun v30 =>
 (y6 2).bind fun v31 =>
 (y6 1).bind fun v32 =>
 (y6 0).bind fun v33 =>
 (B8 v32 v33).bind fun v34 =>
 (B8 v31 v34).bind fun v35 =>
 (A8 v1 v35).bind fun v36 =>
 (A8 v3 v36).bind fun v37 =>
 (A8 v30 v37).bind fun v38 =>
 (D1 v2 v2).bind fun v39 =>
 (D1 v2 v39).bind fun v40 =>
 (y6 2).bind fun v41 =>
 (y6 3).bind fun v42 =>
 (y6 0).bind fun v43 =>
 (B8 v42 v43).bind fun v44 =>
 (B8 v41 v44).bind fun v45 =>
 (y6 1).bind fun v46 =>
 (y6 0).bind fun v47 =>
 (B8 v46 v47).bind fun v48 =>
 (B8 v45 v48).bind fun v49 =>
 (A8 v3 v49).bind fun v50 =>
 (A8 v4 v50).bind fun v51 =>
 (A8 v40 v51).bind fun v52 =>
 (A8 v4 v52).bind fun v53 =>
 bif a0 then
  (y6 0).bind fun v55 =>
  (y6 1).bind fun v56 =>
  (B8 v55 v56).bind fun v57 =>
  (A8 v4 v57).bind fun v58 =>
  (A8 v3 v58).bind fun v59 =>
  (y6 0).bind fun v60 =>
  (y6 1).bind fun v61 =>
  (B8 v60 v61).bind fun v62 =>
  (A8 v6 v62).bind fun v63 =>
  (A8 v3 v63).bind fun v64 =>
  (y6 2).bind fun v65 =>
  (y6 2).bind fun v66 =>
  (y6 1).bind fun v67 =>
  (B8 v66 v67).bind fun v68 =>
  (y6 0).bind fun v69 =>
  (B8 v68 v69).bind fun v70 =>
  (A8 v1 v70).bind fun v71 =>
  (B8 v65 v71).bind fun v72 =>
  (A8 v1 v72).bind fun v73 =>
  (A8 v5 v73).bind fun v74 =>
  (A8 v4 v74).bind fun v75 =>
  some [v59, v64, v18, v75, v38, v53]
 else
  some [v11, v16, v18, v29, v38, v53]
def S4 (a0 : (List (List Int))) (k0 : Nat) (s2 : (List D8) × Int) : Option (Ctl (Ctl (y5) ((List w8)) ((List w8))) ((List D8) × Int) ((List D8))) :=
 bif (decide ((wr .i64 (s2.2 + 1)) < (↑((get a0 k0).length) : Int))) then
  chk (0 ≤ s2.2 ∧ s2.2 < (↑((get a0 k0).length) : Int)) <|
  chk (0 ≤ (wr .i64 (s2.2 + 1)) ∧ (wr .i64 (s2.2 + 1)) < (↑((get a0 k0).length) : Int)) <|
  eV (s2.1 ++ [(D8.mk (get (get a0 k0) s2.2.toNat) (get (get a0 k0) ((wr .i64 (s2.2 + 1)).toNat)))]) fun c38 =>
  chk (c38.length * 16 ≤ top ∧ c38.length ≤ top) <|
  some (.nxt (c38, (wr .i64 (s2.2 + 2))))
 else
  some (.brk s2.1)
def S5 (s0 : (List w8)) (a0 : (List (List Int))) (k0 : Nat) (t2 : (List D8)) : Option (Ctl (y5) ((List w8)) ((List w8))) :=
 chk ((s0.length + 1) * 32 ≤ top ∧ s0.length + 1 ≤ top) <|
 some (.nxt (s0 ++ [(w8.mk (get (get a0 k0) 0) t2)]))
def S6 (n : Nat) (a0 : (List (List Int))) (k0 : Nat) (s0 : (List w8)) : Option (Ctl (y5) ((List w8)) ((List w8))) :=
 chk (0 < (↑((get a0 k0).length) : Int)) <|
 E0 (ct (S4 a0 k0) n ([], 1)) (S5 s0 a0 k0)
def S7 (t0 : (List w8)) : Option (y5) :=
 some (y5.mk t0)
def E5 (n : Nat) (a0 : (List (List Int))) : Option (y5) :=
 E0 (F0 (S6 n a0) a0.length []) (S7)
end Go.Proofs.YtaohdfpcdfbnlaaGreatDoor
namespace Go.Proofs.YtaohdfpcdfbnlaaGreatDoor
open Go Go.Am
def C1 (a0 : Bs) (a1 : u0) : Option (w5) :=
 some (w5.mk 1 a0 0 a1 [])
def K7 (v3 : u0) (j0 : Int × Bs × Int × Bs × (List u0) × (List w5)) : Option (w5) :=
 (A8 v3 (w5.mk j0.1 j0.2.1 j0.2.2.1 (u0.mk j0.2.2.2.1 j0.2.2.2.2.1) j0.2.2.2.2.2)).bind fun v22 =>
 (A8 v3 v22).bind fun v23 =>
 some v23
def J9 (a0 : Bs) (a1 : Bs) (a2 : Bool) : Option (w5) :=
 (J1 [101]).bind fun v1 =>
 (J1 [116]).bind fun v2 =>
 (D1 v1 v2).bind fun v3 =>
 (D1 v3 v2).bind fun v4 =>
 (C1 a0 v4).bind fun v5 =>
 (D1 v2 v2).bind fun v6 =>
 (D1 v2 v6).bind fun v7 =>
 (C1 a1 v7).bind fun v8 =>
 (y6 2).bind fun v9 =>
 (y6 0).bind fun v10 =>
 (B8 v9 v10).bind fun v11 =>
 (B8 v8 v11).bind fun v12 =>
 (y6 1).bind fun v13 =>
 (y6 0).bind fun v14 =>
 (B8 v13 v14).bind fun v15 =>
 (B8 v12 v15).bind fun v16 =>
 (A8 v1 v16).bind fun v17 =>
 (B8 v5 v17).bind fun v18 =>
 bif a2 then
  (D1 v2 v2).bind fun v19 =>
  (C1 [110, 111, 116] v19).bind fun v20 =>
  (B8 v20 v18).bind fun v21 =>
  K7 v3 (v21.kind, v21.name, v21.index, v21.type.base, v21.type.args, v21.args)
 else
  K7 v3 (v18.kind, v18.name, v18.index, v18.type.base, v18.type.args, v18.args)
def B5 (n : Nat) (a0 : Bs) (a1 : Int) (a2 : w5) (a3 : (List (List Int))) (dF : (List w7)) (Gn : (List x9)) (Gp : (List u6)) (l1 : (List w9)) (l2 : (List w8)) : Option ((List w9)) :=
 (E5 n a3).bind fun v1 =>
 eV (l1 ++ [(w9.mk a0 v1 a1 a2)]) fun c3 =>
 chk (c3.length * 144 ≤ top ∧ c3.length ≤ top) <|
 some c3
def T6 (n : Nat) : Option (x5) :=
 (J1 [101]).bind fun v1 =>
 (J1 [116]).bind fun v2 =>
 (D1 v1 v2).bind fun v3 =>
 (D1 v1 v3).bind fun v4 =>
 (Q6 [[116, 111, 112], [114, 117, 108, 101], [115, 105, 103, 110], [110, 117, 109], [115, 105, 110, 103], [112, 108, 117, 114], [115], [110, 112], [118, 112], [110], [100, 101, 116], [105, 118], [116, 118], [97, 100, 118], [99, 111, 110, 106]] [0, 0, 0, 0, 3, 3, 2, 2, 2, 2, 2, 2, 2, 2, 2] [(x9.mk [109, 111, 116, 104, 101, 114] 1 2), (x9.mk [111, 110, 101] 1 2), (x9.mk [116, 119, 111] 1 2), (x9.mk [116, 104, 114, 101, 101] 1 2), (x9.mk [110, 117, 109] 2 3)]).bind fun v8 =>
 (W4 false).bind fun v9 =>
 chk (0 < (↑v9.length : Int)) <|
 (E5 n [[1, 0, 1, 1, 2, 2, 4], [6], [7, 4, 3], [3], [8, 4, 3]]).bind fun v17 =>
 chk (1 < (↑v9.length : Int)) <|
 (E5 n [[1, 0, 1, 1, 3, 2, 4], [7, 4, 2], [3], [10, 4, 2], [9, 4, 2]]).bind fun v25 =>
 chk (2 < (↑v9.length : Int)) <|
 (E5 n [[1, 0, 1, 1, 3], [8, 4, 2], [3], [11, 4, 2]]).bind fun v32 =>
 chk (3 < (↑v9.length : Int)) <|
 (E5 n [[1, 0, 1, 1, 3, 2, 4], [8, 4, 2], [3], [12, 4, 2], [7]]).bind fun v40 =>
 chk (4 < (↑v9.length : Int)) <|
 (E5 n [[1, 0, 1, 1, 3, 2, 4], [8, 4, 2], [3], [13], [8, 4, 2]]).bind fun v48 =>
 chk (5 < (↑v9.length : Int)) <|
 (E5 n [[1, 0, 1, 1, 3, 2, 4, 3, 5], [7, 4, 2], [5], [7], [14], [7]]).bind fun v57 =>
 (J9 [97, 108, 108] [105, 102] false).bind fun v59 =>
 (B5 n [101, 118, 101, 114, 121] 1 v59 [[10, 4, 1], [4]] v8.types v8.C9 [(u6.mk [115] v17 2 0 (get v9 0)), (u6.mk [110, 112] v25 2 1 (get v9 1)), (u6.mk [118, 112, 45, 105, 118] v32 1 0 (get v9 2)), (u6.mk [118, 112, 45, 116, 118] v40 2 2 (get v9 3)), (u6.mk [118, 112, 45, 110, 111, 116] v48 2 3 (get v9 4)), (u6.mk [110, 112, 45, 97, 110, 100] v57 3 4 (get v9 5))] [] []).bind fun v63 =>
 (J9 [115, 111, 109, 101] [97, 110, 100] false).bind fun v64 =>
 (B5 n [97] 0 v64 [[10, 4, 1], [4]] v8.types v8.C9 [(u6.mk [115] v17 2 0 (get v9 0)), (u6.mk [110, 112] v25 2 1 (get v9 1)), (u6.mk [118, 112, 45, 105, 118] v32 1 0 (get v9 2)), (u6.mk [118, 112, 45, 116, 118] v40 2 2 (get v9 3)), (u6.mk [118, 112, 45, 110, 111, 116] v48 2 3 (get v9 4)), (u6.mk [110, 112, 45, 97, 110, 100] v57 3 4 (get v9 5))] v63 []).bind fun v68 =>
 (J9 [115, 111, 109, 101] [97, 110, 100] true).bind fun v69 =>
 (B5 n [110, 111] 2 v69 [[10]] v8.types v8.C9 [(u6.mk [115] v17 2 0 (get v9 0)), (u6.mk [110, 112] v25 2 1 (get v9 1)), (u6.mk [118, 112, 45, 105, 118] v32 1 0 (get v9 2)), (u6.mk [118, 112, 45, 116, 118] v40 2 2 (get v9 3)), (u6.mk [118, 112, 45, 110, 111, 116] v48 2 3 (get v9 4)), (u6.mk [110, 112, 45, 97, 110, 100] v57 3 4 (get v9 5))] v68 []).bind fun v72 =>
 (C1 [100, 111, 103] v3).bind fun v73 =>
 (B5 n [100, 111, 103] 0 v73 [[9, 4, 1], [4]] v8.types v8.C9 [(u6.mk [115] v17 2 0 (get v9 0)), (u6.mk [110, 112] v25 2 1 (get v9 1)), (u6.mk [118, 112, 45, 105, 118] v32 1 0 (get v9 2)), (u6.mk [118, 112, 45, 116, 118] v40 2 2 (get v9 3)), (u6.mk [118, 112, 45, 110, 111, 116] v48 2 3 (get v9 4)), (u6.mk [110, 112, 45, 97, 110, 100] v57 3 4 (get v9 5))] v72 []).bind fun v77 =>
 (C1 [100, 111, 103] v3).bind fun v78 =>
 (B5 n [100, 111, 103, 115] 0 v78 [[9, 4, 1], [5]] v8.types v8.C9 [(u6.mk [115] v17 2 0 (get v9 0)), (u6.mk [110, 112] v25 2 1 (get v9 1)), (u6.mk [118, 112, 45, 105, 118] v32 1 0 (get v9 2)), (u6.mk [118, 112, 45, 116, 118] v40 2 2 (get v9 3)), (u6.mk [118, 112, 45, 110, 111, 116] v48 2 3 (get v9 4)), (u6.mk [110, 112, 45, 97, 110, 100] v57 3 4 (get v9 5))] v77 []).bind fun v82 =>
 (C1 [99, 97, 116] v3).bind fun v83 =>
 (B5 n [99, 97, 116] 0 v83 [[9, 4, 1], [4]] v8.types v8.C9 [(u6.mk [115] v17 2 0 (get v9 0)), (u6.mk [110, 112] v25 2 1 (get v9 1)), (u6.mk [118, 112, 45, 105, 118] v32 1 0 (get v9 2)), (u6.mk [118, 112, 45, 116, 118] v40 2 2 (get v9 3)), (u6.mk [118, 112, 45, 110, 111, 116] v48 2 3 (get v9 4)), (u6.mk [110, 112, 45, 97, 110, 100] v57 3 4 (get v9 5))] v82 []).bind fun v87 =>
 (C1 [99, 97, 116] v3).bind fun v88 =>
 (B5 n [99, 97, 116, 115] 0 v88 [[9, 4, 1], [5]] v8.types v8.C9 [(u6.mk [115] v17 2 0 (get v9 0)), (u6.mk [110, 112] v25 2 1 (get v9 1)), (u6.mk [118, 112, 45, 105, 118] v32 1 0 (get v9 2)), (u6.mk [118, 112, 45, 116, 118] v40 2 2 (get v9 3)), (u6.mk [118, 112, 45, 110, 111, 116] v48 2 3 (get v9 4)), (u6.mk [110, 112, 45, 97, 110, 100] v57 3 4 (get v9 5))] v87 []).bind fun v92 =>
 (C1 [102, 105, 115, 104] v3).bind fun v93 =>
 (B5 n [102, 105, 115, 104] 1 v93 [[9, 4, 1], [4]] v8.types v8.C9 [(u6.mk [115] v17 2 0 (get v9 0)), (u6.mk [110, 112] v25 2 1 (get v9 1)), (u6.mk [118, 112, 45, 105, 118] v32 1 0 (get v9 2)), (u6.mk [118, 112, 45, 116, 118] v40 2 2 (get v9 3)), (u6.mk [118, 112, 45, 110, 111, 116] v48 2 3 (get v9 4)), (u6.mk [110, 112, 45, 97, 110, 100] v57 3 4 (get v9 5))] v92 []).bind fun v97 =>
 (C1 [102, 105, 115, 104] v3).bind fun v98 =>
 (B5 n [102, 105, 115, 104] 2 v98 [[9, 4, 1], [5]] v8.types v8.C9 [(u6.mk [115] v17 2 0 (get v9 0)), (u6.mk [110, 112] v25 2 1 (get v9 1)), (u6.mk [118, 112, 45, 105, 118] v32 1 0 (get v9 2)), (u6.mk [118, 112, 45, 116, 118] v40 2 2 (get v9 3)), (u6.mk [118, 112, 45, 110, 111, 116] v48 2 3 (get v9 4)), (u6.mk [110, 112, 45, 97, 110, 100] v57 3 4 (get v9 5))] v97 []).bind fun v102 =>
 (C1 [98, 97, 114, 107] v3).bind fun v103 =>
 (B5 n [98, 97, 114, 107, 115] 0 v103 [[11, 4, 1], [4]] v8.types v8.C9 [(u6.mk [115] v17 2 0 (get v9 0)), (u6.mk [110, 112] v25 2 1 (get v9 1)), (u6.mk [118, 112, 45, 105, 118] v32 1 0 (get v9 2)), (u6.mk [118, 112, 45, 116, 118] v40 2 2 (get v9 3)), (u6.mk [118, 112, 45, 110, 111, 116] v48 2 3 (get v9 4)), (u6.mk [110, 112, 45, 97, 110, 100] v57 3 4 (get v9 5))] v102 []).bind fun v107 =>
 (C1 [98, 97, 114, 107] v3).bind fun v108 =>
 (B5 n [98, 97, 114, 107] 0 v108 [[11, 4, 1], [5]] v8.types v8.C9 [(u6.mk [115] v17 2 0 (get v9 0)), (u6.mk [110, 112] v25 2 1 (get v9 1)), (u6.mk [118, 112, 45, 105, 118] v32 1 0 (get v9 2)), (u6.mk [118, 112, 45, 116, 118] v40 2 2 (get v9 3)), (u6.mk [118, 112, 45, 110, 111, 116] v48 2 3 (get v9 4)), (u6.mk [110, 112, 45, 97, 110, 100] v57 3 4 (get v9 5))] v107 []).bind fun v112 =>
 (C1 [115, 108, 101, 101, 112] v3).bind fun v113 =>
 (B5 n [115, 108, 101, 101, 112, 115] 0 v113 [[11, 4, 1], [4]] v8.types v8.C9 [(u6.mk [115] v17 2 0 (get v9 0)), (u6.mk [110, 112] v25 2 1 (get v9 1)), (u6.mk [118, 112, 45, 105, 118] v32 1 0 (get v9 2)), (u6.mk [118, 112, 45, 116, 118] v40 2 2 (get v9 3)), (u6.mk [118, 112, 45, 110, 111, 116] v48 2 3 (get v9 4)), (u6.mk [110, 112, 45, 97, 110, 100] v57 3 4 (get v9 5))] v112 []).bind fun v117 =>
 (C1 [115, 108, 101, 101, 112] v3).bind fun v118 =>
 (B5 n [115, 108, 101, 101, 112] 0 v118 [[11, 4, 1], [5]] v8.types v8.C9 [(u6.mk [115] v17 2 0 (get v9 0)), (u6.mk [110, 112] v25 2 1 (get v9 1)), (u6.mk [118, 112, 45, 105, 118] v32 1 0 (get v9 2)), (u6.mk [118, 112, 45, 116, 118] v40 2 2 (get v9 3)), (u6.mk [118, 112, 45, 110, 111, 116] v48 2 3 (get v9 4)), (u6.mk [110, 112, 45, 97, 110, 100] v57 3 4 (get v9 5))] v117 []).bind fun v122 =>
 (C1 [99, 104, 97, 115, 101] v4).bind fun v123 =>
 (B5 n [99, 104, 97, 115, 101, 115] 0 v123 [[12, 4, 1], [4]] v8.types v8.C9 [(u6.mk [115] v17 2 0 (get v9 0)), (u6.mk [110, 112] v25 2 1 (get v9 1)), (u6.mk [118, 112, 45, 105, 118] v32 1 0 (get v9 2)), (u6.mk [118, 112, 45, 116, 118] v40 2 2 (get v9 3)), (u6.mk [118, 112, 45, 110, 111, 116] v48 2 3 (get v9 4)), (u6.mk [110, 112, 45, 97, 110, 100] v57 3 4 (get v9 5))] v122 []).bind fun v127 =>
 (C1 [99, 104, 97, 115, 101] v4).bind fun v128 =>
 (B5 n [99, 104, 97, 115, 101] 0 v128 [[12, 4, 1], [5]] v8.types v8.C9 [(u6.mk [115] v17 2 0 (get v9 0)), (u6.mk [110, 112] v25 2 1 (get v9 1)), (u6.mk [118, 112, 45, 105, 118] v32 1 0 (get v9 2)), (u6.mk [118, 112, 45, 116, 118] v40 2 2 (get v9 3)), (u6.mk [118, 112, 45, 110, 111, 116] v48 2 3 (get v9 4)), (u6.mk [110, 112, 45, 97, 110, 100] v57 3 4 (get v9 5))] v127 []).bind fun v132 =>
 (C1 [115, 101, 101] v4).bind fun v133 =>
 (B5 n [115, 101, 101, 115] 1 v133 [[12, 4, 1], [4]] v8.types v8.C9 [(u6.mk [115] v17 2 0 (get v9 0)), (u6.mk [110, 112] v25 2 1 (get v9 1)), (u6.mk [118, 112, 45, 105, 118] v32 1 0 (get v9 2)), (u6.mk [118, 112, 45, 116, 118] v40 2 2 (get v9 3)), (u6.mk [118, 112, 45, 110, 111, 116] v48 2 3 (get v9 4)), (u6.mk [110, 112, 45, 97, 110, 100] v57 3 4 (get v9 5))] v132 []).bind fun v137 =>
 (C1 [115, 101, 101] v4).bind fun v138 =>
 (B5 n [115, 101, 101] 1 v138 [[12, 4, 1], [5]] v8.types v8.C9 [(u6.mk [115] v17 2 0 (get v9 0)), (u6.mk [110, 112] v25 2 1 (get v9 1)), (u6.mk [118, 112, 45, 105, 118] v32 1 0 (get v9 2)), (u6.mk [118, 112, 45, 116, 118] v40 2 2 (get v9 3)), (u6.mk [118, 112, 45, 110, 111, 116] v48 2 3 (get v9 4)), (u6.mk [110, 112, 45, 97, 110, 100] v57 3 4 (get v9 5))] v137 []).bind fun v142 =>
 (D1 v2 v2).bind fun v143 =>
 (C1 [110, 111, 116] v143).bind fun v144 =>
 (B5 n [110, 111, 116] 0 v144 [[13]] v8.types v8.C9 [(u6.mk [115] v17 2 0 (get v9 0)), (u6.mk [110, 112] v25 2 1 (get v9 1)), (u6.mk [118, 112, 45, 105, 118] v32 1 0 (get v9 2)), (u6.mk [118, 112, 45, 116, 118] v40 2 2 (get v9 3)), (u6.mk [118, 112, 45, 110, 111, 116] v48 2 3 (get v9 4)), (u6.mk [110, 112, 45, 97, 110, 100] v57 3 4 (get v9 5))] v142 []).bind fun v147 =>
 (D1 v2 v2).bind fun v148 =>
 (D1 v2 v148).bind fun v149 =>
 (C1 [97, 110, 100] v149).bind fun v150 =>
 (B5 n [97, 110, 100] 0 v150 [[14]] v8.types v8.C9 [(u6.mk [115] v17 2 0 (get v9 0)), (u6.mk [110, 112] v25 2 1 (get v9 1)), (u6.mk [118, 112, 45, 105, 118] v32 1 0 (get v9 2)), (u6.mk [118, 112, 45, 116, 118] v40 2 2 (get v9 3)), (u6.mk [118, 112, 45, 110, 111, 116] v48 2 3 (get v9 4)), (u6.mk [110, 112, 45, 97, 110, 100] v57 3 4 (get v9 5))] v147 []).bind fun v153 =>
 (y6 0).bind fun v154 =>
 (C1 [114, 101, 120] v1).bind fun v155 =>
 (B8 v154 v155).bind fun v156 =>
 (A8 v3 v156).bind fun v157 =>
 (B5 n [114, 101, 120] 0 v157 [[7, 4, 1], [4]] v8.types v8.C9 [(u6.mk [115] v17 2 0 (get v9 0)), (u6.mk [110, 112] v25 2 1 (get v9 1)), (u6.mk [118, 112, 45, 105, 118] v32 1 0 (get v9 2)), (u6.mk [118, 112, 45, 116, 118] v40 2 2 (get v9 3)), (u6.mk [118, 112, 45, 110, 111, 116] v48 2 3 (get v9 4)), (u6.mk [110, 112, 45, 97, 110, 100] v57 3 4 (get v9 5))] v153 []).bind fun v161 =>
 (y6 0).bind fun v162 =>
 (C1 [109, 105, 97] v1).bind fun v163 =>
 (B8 v162 v163).bind fun v164 =>
 (A8 v3 v164).bind fun v165 =>
 (B5 n [109, 105, 97] 0 v165 [[7, 4, 1], [4]] v8.types v8.C9 [(u6.mk [115] v17 2 0 (get v9 0)), (u6.mk [110, 112] v25 2 1 (get v9 1)), (u6.mk [118, 112, 45, 105, 118] v32 1 0 (get v9 2)), (u6.mk [118, 112, 45, 116, 118] v40 2 2 (get v9 3)), (u6.mk [118, 112, 45, 110, 111, 116] v48 2 3 (get v9 4)), (u6.mk [110, 112, 45, 97, 110, 100] v57 3 4 (get v9 5))] v161 []).bind fun v169 =>
 (E5 n [[6]]).bind fun v172 =>
 some (x5.mk v8 [(u6.mk [115] v17 2 0 (get v9 0)), (u6.mk [110, 112] v25 2 1 (get v9 1)), (u6.mk [118, 112, 45, 105, 118] v32 1 0 (get v9 2)), (u6.mk [118, 112, 45, 116, 118] v40 2 2 (get v9 3)), (u6.mk [118, 112, 45, 110, 111, 116] v48 2 3 (get v9 4)), (u6.mk [110, 112, 45, 97, 110, 100] v57 3 4 (get v9 5))] v169 v172)
end Go.Proofs.YtaohdfpcdfbnlaaGreatDoor
namespace Go.Proofs.YtaohdfpcdfbnlaaGreatDoor
open Go Go.Am
def H9 (a0 : Int) (a1 : Int) : Option (y7) :=
 some (y7.mk a0 a1)
def iS (a0 : Bs) (k0 : Nat) (s0 : Unit) : Option (Ctl (Bool) (Unit) (Unit)) :=
 bif (!(bif (bif (bif (bif (decide (97 ≤ (C7 a0 (↑k0 : Int)))) then (decide ((C7 a0 (↑k0 : Int)) ≤ 122)) else false) then true else (bif (decide (48 ≤ (C7 a0 (↑k0 : Int)))) then (decide ((C7 a0 (↑k0 : Int)) ≤ 57)) else false)) then true else (decide ((C7 a0 (↑k0 : Int)) = 95))) then true else (decide ((C7 a0 (↑k0 : Int)) = 45)))) then
  some (.ret false)
 else
  some (.nxt ())
def ld (t0 : Unit) : Option (Bool) :=
 some true
def termName (a0 : Bs) : Option (Bool) :=
 chk (aN (!(bif (decide ((↑a0.length : Int) = 0)) then true else (decide (30 < (↑a0.length : Int))))) (0 < (↑a0.length : Int))) <|
 chk (aN (!(bif (bif (decide ((↑a0.length : Int) = 0)) then true else (decide (30 < (↑a0.length : Int)))) then true else (decide ((C7 a0 0) < 97)))) (0 < (↑a0.length : Int))) <|
 bif (bif (bif (bif (decide ((↑a0.length : Int) = 0)) then true else (decide (30 < (↑a0.length : Int)))) then true else (decide ((C7 a0 0) < 97))) then true else (decide (122 < (C7 a0 0)))) then
  some false
 else
  chk (a0.length ≤ 9223372036854775807) <|
  E0 (F0 (iS a0) a0.length ()) (ld)
def bp (a0 : (List w7)) (k0 : Nat) (k2 : Nat) (s2 : Int) : Option (Ctl (Ctl (y7) ((List (Bs × Int))) ((List (Bs × Int)))) (Int) (Int)) :=
 bif (bif (decide ((get ((get a0 k0).parents) k2) < 0)) then true else (decide ((↑k0 : Int) ≤ (get ((get a0 k0).parents) k2)))) then
  (H9 3 (↑k0 : Int)).bind fun v20 =>
  some (.ret (.ret v20))
 else
  bif (decide ((get ((get a0 k0).parents) k2) ≤ s2)) then
   (H9 13 (↑k0 : Int)).bind fun v21 =>
   some (.ret (.ret v21))
  else
   some (.nxt (get ((get a0 k0).parents) k2))
def bq (c15 : (List (Bs × Int))) (t2 : Int) : Option (Ctl (y7) ((List (Bs × Int))) ((List (Bs × Int)))) :=
 some (.nxt c15)
def br (a0 : (List w7)) (k0 : Nat) (s0 : (List (Bs × Int))) : Option (Ctl (y7) ((List (Bs × Int))) ((List (Bs × Int)))) :=
 (termName ((get a0 k0).name)).bind fun v12 =>
 bif (!v12) then
  (H9 10 (↑k0 : Int)).bind fun v13 =>
  some (.ret v13)
 else
  bif (assoc ((get a0 k0).name) s0).isSome then
   (H9 7 (↑k0 : Int)).bind fun v14 =>
   some (.ret v14)
  else
   eV (K1 ((get a0 k0).name) (↑k0 : Int) s0) fun c15 =>
   bif (!decide ((decide ((↑k0 : Int) = 0)) = (decide ((↑(((get a0 k0).parents).length) : Int) = 0)))) then
    (H9 5 (↑k0 : Int)).bind fun v17 =>
    some (.ret v17)
   else
    E0 (F0 (bp a0 k0) (((get a0 k0).parents).length) (-1)) (bq c15)
def dK (t0 : (List (Bs × Int))) : Option (y7) :=
 some (y7.mk 0 0)
def bV (a0 : (List w7)) : Option (y7) :=
 bif (bif (decide ((↑a0.length : Int) = 0)) then true else (decide (60 < (↑a0.length : Int)))) then
  (H9 2 (-1)).bind fun v1 =>
  some v1
 else
  E0 (F0 (br a0) a0.length []) (dK)
def au (k0 : Nat) (a0 : (List w7)) (k3 : Nat) (s3 : (List Int)) : Option (Ctl (Ctl (A9) ((List Int) × (List Int)) ((List Int) × (List Int))) ((List Int)) ((List Int))) :=
 chk ((↑k0 : Int) < (↑s3.length : Int)) <|
 chk (0 ≤ (get ((get a0 k0).parents) k3) ∧ (get ((get a0 k0).parents) k3) < (↑s3.length : Int)) <|
 eV (s3.set k0 (M1 .or .u64 (get s3 k0) (get s3 ((get ((get a0 k0).parents) k3).toNat)))) fun c86 =>
 some (.nxt c86)
def av (k0 : Nat) (t3 : (List Int)) (k4 : Nat) (s4 : (List Int)) : Option (Ctl (Ctl (A9) ((List Int) × (List Int)) ((List Int) × (List Int))) ((List Int)) ((List Int))) :=
 chk ((↑k0 : Int) < (↑t3.length : Int)) <|
 chk (0 ≤ (↑k4 : Int)) <|
 bif (decide ((M1 .and .u64 (Int.fdiv (get t3 k0) (2 ^ (min k4 64))) 1) = 1)) then
  chk ((↑k4 : Int) < (↑s4.length : Int)) <|
  eV (s4.set k4 (M1 .or .u64 (get s4 k4) (wr .u64 (1 * 2 ^ (min k0 64))))) fun c110 =>
  some (.nxt c110)
 else
  some (.nxt s4)
def ay (t3 : (List Int)) (t4 : (List Int)) : Option (Ctl (A9) ((List Int) × (List Int)) ((List Int) × (List Int))) :=
 some (.nxt (t3, t4))
def aA (k0 : Nat) (a0 : (List w7)) (s0 : (List Int) × (List Int)) (t3 : (List Int)) : Option (Ctl (A9) ((List Int) × (List Int)) ((List Int) × (List Int))) :=
 E0 (F0 (av k0 t3) a0.length s0.2) (ay t3)
def aB (a0 : (List w7)) (k0 : Nat) (s0 : (List Int) × (List Int)) : Option (Ctl (A9) ((List Int) × (List Int)) ((List Int) × (List Int))) :=
 chk (0 ≤ (↑k0 : Int)) <|
 chk ((↑k0 : Int) < (↑s0.1.length : Int)) <|
 eV (s0.1.set k0 (wr .u64 (1 * 2 ^ (min k0 64)))) fun c62 =>
 E0 (F0 (au k0 a0) (((get a0 k0).parents).length) c62) (aA k0 a0 s0)
def aC (t0 : (List Int) × (List Int)) : Option (A9) :=
 some (A9.mk t0.1 t0.2)
def W5 (a0 : (List w7)) : Option (A9) :=
 chk (a0.length * 8 ≤ top ∧ a0.length ≤ top) <|
 E0 (F0 (aB a0) a0.length ((List.replicate a0.length (default : Int)), (List.replicate a0.length (default : Int)))) (aC)
end Go.Proofs.YtaohdfpcdfbnlaaGreatDoor
namespace Go.Proofs.YtaohdfpcdfbnlaaGreatDoor
open Go Go.Am
def L1 (a0 : Int) : Option (Int) :=
 bif (decide (a0 = 0)) then
  some 64
 else
  chk (0 ≤ (Int.fdiv (wr .u64 ((M1 .and .u64 a0 (wr .u64 (0 - a0))) * 285870213051353865)) (2 ^ (min 58 64))) ∧ (Int.fdiv (wr .u64 ((M1 .and .u64 a0 (wr .u64 (0 - a0))) * 285870213051353865)) (2 ^ (min 58 64))) < 64) <|
  some (wr .i64 (get Ax ((Int.fdiv (wr .u64 ((M1 .and .u64 a0 (wr .u64 (0 - a0))) * 285870213051353865)) (2 ^ (min 58 64))).toNat)))
def T7 (a0 : A9) (a1 : Int) (a2 : Int) : Option (Int × Bool × Bool) :=
 chk (0 ≤ a1 ∧ a1 < (↑a0.down.length : Int)) <|
 chk (0 ≤ a2 ∧ a2 < (↑a0.down.length : Int)) <|
 bif (decide ((M1 .and .u64 (get a0.down a1.toNat) (get a0.down a2.toNat)) = 0)) then
  some (0, false, false)
 else
  (L1 (M1 .and .u64 (get a0.down a1.toNat) (get a0.down a2.toNat))).bind fun v5 =>
  chk (0 ≤ v5 ∧ v5 < (↑a0.down.length : Int)) <|
  bif (!decide ((get a0.down v5.toNat) = (M1 .and .u64 (get a0.down a1.toNat) (get a0.down a2.toNat)))) then
   some (0, false, true)
  else
   some (v5, true, false)
def V2 (v3 : A9) (k0 : Nat) (k1 : Nat) (s1 : Unit) : Option (Ctl (Ctl (y7) (Unit) (Unit)) (Unit) (Unit)) :=
 (T7 v3 (↑k1 : Int) (↑k0 : Int)).bind fun v6 =>
 bif v6.2.2 then
  (H9 16 (↑k0 : Int)).bind fun v7 =>
  some (.ret (.ret v7))
 else
  some (.nxt ())
def bM (t1 : Unit) : Option (Ctl (y7) (Unit) (Unit)) :=
 some (.nxt ())
def V3 (v3 : A9) (k0 : Nat) (s0 : Unit) : Option (Ctl (y7) (Unit) (Unit)) :=
 chk (k0 ≤ 9223372036854775807) <|
 E0 (F0 (V2 v3 k0) k0 ()) (bM)
def V4 (a0 : w4) (k2 : Nat) (s2 : (List (Bs × Int))) : Option (Ctl (y7) ((List (Bs × Int))) ((List (Bs × Int)))) :=
 (termName ((get a0.C9 k2).name)).bind fun v14 =>
 bif (!v14) then
  (H9 10 (↑k2 : Int)).bind fun v15 =>
  some (.ret v15)
 else
  bif (assoc ((get a0.C9 k2).name) s2).isSome then
   (H9 7 (↑k2 : Int)).bind fun v16 =>
   some (.ret v16)
  else
   eV (K1 ((get a0.C9 k2).name) (↑k2 : Int) s2) fun c17 =>
   bif (bif (bif (bif (decide (((get a0.C9 k2).of_) < 0)) then true else (decide ((↑a0.types.length : Int) ≤ ((get a0.C9 k2).of_)))) then true else (decide (((get a0.C9 k2).value) < 0))) then true else (decide ((↑a0.types.length : Int) ≤ ((get a0.C9 k2).value)))) then
    (H9 3 (↑k2 : Int)).bind fun v19 =>
    some (.ret v19)
   else
    some (.nxt c17)
def V5 (t2 : (List (Bs × Int))) : Option (y7) :=
 some (y7.mk 0 0)
def V6 (a0 : w4) (t0 : Unit) : Option (y7) :=
 E0 (F0 (V4 a0) a0.C9.length []) (V5)
def W6 (a0 : w4) : Option (y7) :=
 bif (bif (bif (decide ((↑a0.types.length : Int) = 0)) then true else (decide (60 < (↑a0.types.length : Int)))) then true else (decide (40 < (↑a0.C9.length : Int)))) then
  (H9 2 (-1)).bind fun v1 =>
  some v1
 else
  (bV a0.types).bind fun v2 =>
  bif (!decide (v2.code = 0)) then
   some v2
  else
   (W5 a0.types).bind fun v3 =>
   chk (a0.types.length ≤ 9223372036854775807) <|
   E0 (F0 (V3 v3) a0.types.length ()) (V6 a0)
def P7 (a0 : Int) (a1 : Int) : Option (y7) :=
 some (y7.mk a0 a1)
def bw (a0 : Int) (a1 : Int) : Option (y7) :=
 some (y7.mk a0 a1)
def fu (a1 : y5) (k0 : Nat) (a0 : w4) (k2 : Nat) (s2 : Int) : Option (Ctl (Ctl (y7) (Unit) (Unit)) (Int) (Int)) :=
 bif (bif (bif (bif (decide (((get ((get a1.nodes k0).links) k2).nZ) < 0)) then true else (decide ((↑a0.C9.length : Int) ≤ ((get ((get a1.nodes k0).links) k2).nZ)))) then true else (decide (((get ((get a1.nodes k0).links) k2).to_) < 0))) then true else (decide ((↑a1.nodes.length : Int) ≤ ((get ((get a1.nodes k0).links) k2).to_)))) then
  (bw 3 (↑k0 : Int)).bind fun v10 =>
  some (.ret (.ret v10))
 else
  bif (decide (((get ((get a1.nodes k0).links) k2).nZ) ≤ s2)) then
   (bw 13 (↑k0 : Int)).bind fun v11 =>
   some (.ret (.ret v11))
  else
   some (.nxt ((get ((get a1.nodes k0).links) k2).nZ))
def fy (t2 : Int) : Option (Ctl (y7) (Unit) (Unit)) :=
 some (.nxt ())
def fz (a1 : y5) (a0 : w4) (k0 : Nat) (s0 : Unit) : Option (Ctl (y7) (Unit) (Unit)) :=
 bif (bif (decide (((get a1.nodes k0).type) < 0)) then true else (decide ((↑a0.types.length : Int) ≤ ((get a1.nodes k0).type)))) then
  (bw 3 (↑k0 : Int)).bind fun v7 =>
  some (.ret v7)
 else
  E0 (F0 (fu a1 k0 a0) (((get a1.nodes k0).links).length) (-1)) (fy)
def fA (t0 : Unit) : Option (y7) :=
 some (y7.mk 0 0)
def iA (a0 : w4) (a1 : y5) : Option (y7) :=
 bif (bif (decide ((↑a1.nodes.length : Int) = 0)) then true else (decide (60 < (↑a1.nodes.length : Int)))) then
  (bw 2 (-2)).bind fun v1 =>
  some v1
 else
  E0 (F0 (fz a1 a0) a1.nodes.length ()) (fA)
end Go.Proofs.YtaohdfpcdfbnlaaGreatDoor
namespace Go.Proofs.YtaohdfpcdfbnlaaGreatDoor
open Go Go.Am
def Q0 (a0 : A9) (a1 : Int) (a2 : Int) : Option (Bool) :=
 chk (0 ≤ a1 ∧ a1 < (↑a0.up.length : Int)) <|
 chk (0 ≤ a2) <|
 some (decide ((M1 .and .u64 (Int.fdiv (get a0.up a1.toNat) (2 ^ (min a2.toNat 64))) 1) = 1))
def S1 (a1 : Bool) (a0 : (List Bool)) (k0 : Nat) (s0 : Unit) : Option (Ctl (Int) (Unit) (Unit)) :=
 bif (decide (a1 = (get a0 k0))) then
  some (.ret (↑k0 : Int))
 else
  some (.nxt ())
def aq (t0 : Unit) : Option (Int) :=
 some (-1)
def Q7 (a0 : (List Bool)) (a1 : Bool) : Option (Int) :=
 E0 (F0 (S1 a1 a0) a0.length ()) (aq)
def bx (a0 : y5) (s0 : (List Bool) × (List Int) × Nat) (k2 : Nat) (s2 : (List Bool) × (List Int) × Nat) : Option (Ctl (Ctl (Int) ((List Bool) × (List Int) × Nat) ((List Bool))) ((List Bool) × (List Int) × Nat) ((List Bool) × (List Int) × Nat)) :=
 chk (0 ≤ (get ((get a0.nodes ((get s0.2.1 ((wr .i64 ((↑s0.2.2 : Int) - 1)).toNat)).toNat)).links) k2).to_ ∧ (get ((get a0.nodes ((get s0.2.1 ((wr .i64 ((↑s0.2.2 : Int) - 1)).toNat)).toNat)).links) k2).to_ < (↑s2.1.length : Int)) <|
 bif (!(get s2.1 (((get ((get a0.nodes ((get s0.2.1 ((wr .i64 ((↑s0.2.2 : Int) - 1)).toNat)).toNat)).links) k2).to_).toNat))) then
  eV (s2.1.set (((get ((get a0.nodes ((get s0.2.1 ((wr .i64 ((↑s0.2.2 : Int) - 1)).toNat)).toNat)).links) k2).to_).toNat) true) fun c79 =>
  chk (s2.2.2 ≤ s2.2.1.length) <|
  eV ((s2.2.1.take s2.2.2) ++ [(get ((get a0.nodes ((get s0.2.1 ((wr .i64 ((↑s0.2.2 : Int) - 1)).toNat)).toNat)).links) k2).to_]) fun c84 =>
  chk (c84.length * 8 ≤ top ∧ c84.length ≤ top) <|
  some (.nxt (c79, c84, c84.length))
 else
  some (.nxt (s2.1, s2.2.1, s2.2.2))
def bA (t2 : (List Bool) × (List Int) × Nat) : Option (Ctl (Int) ((List Bool) × (List Int) × Nat) ((List Bool))) :=
 some (.nxt (t2.1, t2.2.1, t2.2.2))
def bB (a0 : y5) (s0 : (List Bool) × (List Int) × Nat) : Option (Ctl (Int) ((List Bool) × (List Int) × Nat) ((List Bool))) :=
 bif (decide (0 < (↑s0.2.2 : Int))) then
  chk (s0.2.2 ≤ s0.2.1.length) <|
  chk (0 ≤ (wr .i64 ((↑s0.2.2 : Int) - 1)) ∧ (wr .i64 ((↑s0.2.2 : Int) - 1)) < (↑s0.2.2 : Int)) <|
  chk ((wr .i64 ((↑s0.2.2 : Int) - 1)).toNat ≤ s0.2.2) <|
  chk (0 ≤ (get s0.2.1 ((wr .i64 ((↑s0.2.2 : Int) - 1)).toNat)) ∧ (get s0.2.1 ((wr .i64 ((↑s0.2.2 : Int) - 1)).toNat)) < (↑a0.nodes.length : Int)) <|
  E0 (F0 (bx a0 s0) (((get a0.nodes ((get s0.2.1 ((wr .i64 ((↑s0.2.2 : Int) - 1)).toNat)).toNat)).links).length) (s0.1, s0.2.1, (wr .i64 ((↑s0.2.2 : Int) - 1)).toNat)) (bA)
 else
  some (.brk s0.1)
def bC (t0 : (List Bool)) : Option (Int) :=
 (Q7 t0 false).bind fun v89 =>
 some v89
def bW (n : Nat) (a0 : y5) : Option (Int) :=
 chk (a0.nodes.length * 1 ≤ top ∧ a0.nodes.length ≤ top) <|
 chk (0 < (↑a0.nodes.length : Int)) <|
 eV ((List.replicate a0.nodes.length (default : Bool)).set 0 true) fun c7 =>
 E0 (ct (bB a0) n (c7, [0], 1)) (bC)
def dU (a2 : y5) (k0 : Nat) (a0 : w4) (a1 : A9) (k2 : Nat) (s2 : Unit) : Option (Ctl (Ctl (y7) (Unit) (Unit)) (Unit) (Unit)) :=
 chk (0 ≤ (get ((get a2.nodes k0).links) k2).nZ ∧ (get ((get a2.nodes k0).links) k2).nZ < (↑a0.C9.length : Int)) <|
 (Q0 a1 ((get a2.nodes k0).type) ((get a0.C9 (((get ((get a2.nodes k0).links) k2).nZ).toNat)).of_)).bind fun v28 =>
 chk (aN (!(!v28)) (0 ≤ (get ((get a2.nodes k0).links) k2).to_) ∧ aN (!(!v28)) ((get ((get a2.nodes k0).links) k2).to_ < (↑a2.nodes.length : Int))) <|
 (gd (!(!v28)) (Q0 a1 ((get a2.nodes (((get ((get a2.nodes k0).links) k2).to_).toNat)).type) ((get a0.C9 (((get ((get a2.nodes k0).links) k2).nZ).toNat)).value)) default).bind fun v32 =>
 bif (bif (!v28) then true else (!v32)) then
  (bw 12 (↑k0 : Int)).bind fun v33 =>
  some (.ret (.ret v33))
 else
  some (.nxt ())
def gU (t2 : Unit) : Option (Ctl (y7) (Unit) (Unit)) :=
 some (.nxt ())
def dV (a2 : y5) (a0 : w4) (a1 : A9) (k0 : Nat) (s0 : Unit) : Option (Ctl (y7) (Unit) (Unit)) :=
 E0 (F0 (dU a2 k0 a0 a1) (((get a2.nodes k0).links).length) ()) (gU)
def dW (n : Nat) (a2 : y5) (t0 : Unit) : Option (y7) :=
 (bW n a2).bind fun v34 =>
 bif (decide (0 ≤ v34)) then
  (bw 5 v34).bind fun v35 =>
  some v35
 else
  some (y7.mk 0 0)
def cu (n : Nat) (a0 : w4) (a1 : A9) (a2 : y5) : Option (y7) :=
 (iA a0 a2).bind fun v1 =>
 bif (!decide (v1.code = 0)) then
  some v1
 else
  E0 (F0 (dV a2 a0 a1) a2.nodes.length ()) (dW n a2)
end Go.Proofs.YtaohdfpcdfbnlaaGreatDoor
namespace Go.Proofs.YtaohdfpcdfbnlaaGreatDoor
open Go Go.Am
def iT (a0 : Int) : Option (Bool) :=
 some false
def dg (a0 : Int) (a1 : Int) : Option (Int) :=
 (iT a0).bind fun v1 =>
 (iT a1).bind fun v2 =>
 bif v1 then
  bif v2 then
   some 0
  else
   some (-1)
 else
  bif v2 then
   some 1
  else
   bif (decide (a0 < a1)) then
    some (-1)
   else
    bif (decide (a1 < a0)) then
     some 1
    else
     some 0
def cK (a0 : D8) (a1 : Int) : Option (Int) :=
 (dg a0.nZ a1).bind fun v1 =>
 some v1
def F7 (a0 : (List D8)) (a1 : Int) (s0 : Int × Int) : Option (Ctl (Int × Bool) (Int × Int) (Int)) :=
 bif (decide (s0.2 < s0.1)) then
  chk (0 ≤ (wr .i64 (Int.fdiv (wr .u64 (wr .i64 (s0.2 + s0.1))) (2 ^ (min 1 64)))) ∧ (wr .i64 (Int.fdiv (wr .u64 (wr .i64 (s0.2 + s0.1))) (2 ^ (min 1 64)))) < (↑a0.length : Int)) <|
  (cK (get a0 ((wr .i64 (Int.fdiv (wr .u64 (wr .i64 (s0.2 + s0.1))) (2 ^ (min 1 64)))).toNat)) a1).bind fun v6 =>
  bif (decide (v6 < 0)) then
   some (.nxt (s0.1, (wr .i64 ((wr .i64 (Int.fdiv (wr .u64 (wr .i64 (s0.2 + s0.1))) (2 ^ (min 1 64)))) + 1))))
  else
   some (.nxt ((wr .i64 (Int.fdiv (wr .u64 (wr .i64 (s0.2 + s0.1))) (2 ^ (min 1 64)))), s0.2))
 else
  some (.brk s0.2)
def F8 (a0 : (List D8)) (a1 : Int) (t0 : Int) : Option (Int × Bool) :=
 chk (aN (decide (t0 < (↑a0.length : Int))) (0 ≤ t0) ∧ aN (decide (t0 < (↑a0.length : Int))) (t0 < (↑a0.length : Int))) <|
 (gd (decide (t0 < (↑a0.length : Int))) (cK (get a0 t0.toNat) a1) default).bind fun v10 =>
 some (t0, (bif (decide (t0 < (↑a0.length : Int))) then (decide (v10 = 0)) else false))
def E7 (n : Nat) (a0 : (List D8)) (a1 : Int) : Option (Int × Bool) :=
 E0 (ct (F7 a0 a1) n ((↑a0.length : Int), 0)) (F8 a0 a1)
def fT (n : Nat) (a0 : y5) (a1 : Int) (a2 : Int) : Option (Int) :=
 chk (0 ≤ a1 ∧ a1 < (↑a0.nodes.length : Int)) <|
 (E7 n ((get a0.nodes a1.toNat).links) a2).bind fun v3 =>
 bif (!v3.2) then
  some (-1)
 else
  chk (0 ≤ v3.1 ∧ v3.1 < (↑(((get a0.nodes a1.toNat).links).length) : Int)) <|
  some ((get ((get a0.nodes a1.toNat).links) v3.1.toNat).to_)
def cj (n : Nat) (a0 : y5) (a1 : Int) (k0 : Nat) (s0 : Unit) : Option (Ctl (Bool) (Unit) (Unit)) :=
 (fT n a0 0 (↑k0 : Int)).bind fun v1 =>
 bif (!decide ((decide (0 ≤ v1)) = (decide ((↑k0 : Int) ≤ a1)))) then
  some (.ret false)
 else
  some (.nxt ())
def eN (t0 : Unit) : Option (Bool) :=
 some true
def dh (n : Nat) (a0 : y5) (a1 : Int) : Option (Bool) :=
 E0 (F0 (cj n a0 a1) 4 ()) (eN)
def I0 (a0 : Int) (dF : Int) : Option (y7) :=
 some (y7.mk a0 dF)
def aD (self : (u0) → (Int) → (Int) → Option (Int × Int)) (a0 : u0) (a1 : Int) (k0 : Nat) (s0 : Int) : Option (Ctl (Int × Int) (Int) (Int)) :=
 (self (get a0.args k0) (wr .i64 (a1 + 1)) s0).bind fun v2 =>
 bif (!decide (v2.1 = 0)) then
  some (.ret (v2.1, v2.2))
 else
  some (.nxt v2.2)
def dj (t0 : Int) : Option (Int × Int) :=
 some (0, t0)
def Q8 : Nat → (u0) → (Int) → (Int) → Option (Int × Int)
 | 0, _, _, _ => none
 | n + 1, a0, a1, dF =>
  bif (bif (decide (200 < (wr .i64 (dF + 1)))) then true else (decide (40 < a1))) then
   some (1, (wr .i64 (dF + 1)))
  else
   bif (!(bif (bif (bif (decide (a0.base = [101])) then true else (decide (a0.base = [116]))) then (decide ((↑a0.args.length : Int) = 0)) else false) then true else (bif (decide (a0.base = [])) then (decide ((↑a0.args.length : Int) = 2)) else false))) then
    some (5, (wr .i64 (dF + 1)))
   else
    E0 (F0 (aD (Q8 n) a0 a1) a0.args.length (wr .i64 (dF + 1))) (dj)
end Go.Proofs.YtaohdfpcdfbnlaaGreatDoor
namespace Go.Proofs.YtaohdfpcdfbnlaaGreatDoor
open Go Go.Am
def ao (n : Nat) (a0 : u0) : Option (y7) :=
 (Q8 n a0 1 0).bind fun v1 =>
 some (y7.mk v1.1 0)
def mo (a0 : u0) : Option (Bool) :=
 some (bif (decide (a0.base = [])) then (decide ((↑a0.args.length : Int) = 0)) else false)
def T8 : Nat → (w5) → (Int) → (Int) → (Int) → Option (y7 × Int)
 | 0, _, _, _, _ => none
 | n + 1, a0, a1, a2, dF =>
  bif (bif (decide (200 < (wr .i64 (dF + 1)))) then true else (decide (40 < a1))) then
   (I0 1 dF).bind fun v1 =>
   some (v1, (wr .i64 (dF + 1)))
  else
   bif (decide (a0.kind = 1)) then
    bif (bif (!decide (a0.index = 0)) then true else (!decide ((↑a0.args.length : Int) = 0))) then
     (I0 5 dF).bind fun v2 =>
     some (v2, (wr .i64 (dF + 1)))
    else
     (termName a0.name).bind fun v3 =>
     bif (!v3) then
      (I0 10 dF).bind fun v4 =>
      some (v4, (wr .i64 (dF + 1)))
     else
      (ao n a0.type).bind fun v5 =>
      bif (!decide (v5.code = 0)) then
       (I0 12 dF).bind fun v6 =>
       some (v6, (wr .i64 (dF + 1)))
      else
       some ((y7.mk 0 0), (wr .i64 (dF + 1)))
   else
    bif (decide (a0.kind = 2)) then
     (gd (!(!decide (a0.name = []))) (mo a0.type) default).bind fun v7 =>
     bif (bif (bif (!decide (a0.name = [])) then true else (!v7)) then true else (!decide ((↑a0.args.length : Int) = 0))) then
      (I0 5 dF).bind fun v8 =>
      some (v8, (wr .i64 (dF + 1)))
     else
      bif (bif (decide (a0.index < 0)) then true else (decide (a2 ≤ a0.index))) then
       (I0 15 dF).bind fun v9 =>
       some (v9, (wr .i64 (dF + 1)))
      else
       some ((y7.mk 0 0), (wr .i64 (dF + 1)))
    else
     bif (decide (a0.kind = 3)) then
      bif (bif (bif (!decide (a0.name = [])) then true else (!decide (a0.index = 0))) then true else (!decide ((↑a0.args.length : Int) = 1))) then
       (I0 5 dF).bind fun v10 =>
       some (v10, (wr .i64 (dF + 1)))
      else
       (ao n a0.type).bind fun v11 =>
       bif (!decide (v11.code = 0)) then
        (I0 12 dF).bind fun v12 =>
        some (v12, (wr .i64 (dF + 1)))
       else
        chk (0 < (↑a0.args.length : Int)) <|
        (T8 n (get a0.args 0) (wr .i64 (a1 + 1)) (wr .i64 (a2 + 1)) (wr .i64 (dF + 1))).bind fun v14 =>
        some (v14.1, v14.2)
     else
      bif (decide (a0.kind = 4)) then
       (gd (!(bif (!decide (a0.name = [])) then true else (!decide (a0.index = 0)))) (mo a0.type) default).bind fun v15 =>
       bif (bif (bif (bif (!decide (a0.name = [])) then true else (!decide (a0.index = 0))) then true else (!v15)) then true else (!decide ((↑a0.args.length : Int) = 2))) then
        (I0 5 dF).bind fun v16 =>
        some (v16, (wr .i64 (dF + 1)))
       else
        chk (0 < (↑a0.args.length : Int)) <|
        (T8 n (get a0.args 0) (wr .i64 (a1 + 1)) a2 (wr .i64 (dF + 1))).bind fun v18 =>
        bif (!decide (v18.1.code = 0)) then
         some (v18.1, v18.2)
        else
         chk (1 < (↑a0.args.length : Int)) <|
         (T8 n (get a0.args 1) (wr .i64 (a1 + 1)) a2 v18.2).bind fun v20 =>
         some (v20.1, v20.2)
      else
       (I0 4 dF).bind fun v21 =>
       some (v21, (wr .i64 (dF + 1)))
end Go.Proofs.YtaohdfpcdfbnlaaGreatDoor
namespace Go.Proofs.YtaohdfpcdfbnlaaGreatDoor
open Go Go.Am
def fB (self : (u0) → (u0) → Option (Bool)) (a1 : u0) (a0 : u0) (k0 : Nat) (s0 : Unit) : Option (Ctl (Bool) (Unit) (Unit)) :=
 chk ((↑k0 : Int) < (↑a1.args.length : Int)) <|
 (self (get a0.args k0) (get a1.args k0)).bind fun v3 =>
 bif (!v3) then
  some (.ret false)
 else
  some (.nxt ())
def iU (t0 : Unit) : Option (Bool) :=
 some true
def bD : Nat → (u0) → (u0) → Option (Bool)
 | 0, _, _ => none
 | n + 1, a0, a1 =>
  bif (bif (!decide (a0.base = a1.base)) then true else (!decide ((↑a0.args.length : Int) = (↑a1.args.length : Int)))) then
   some false
  else
   chk (a0.args.length ≤ 9223372036854775807) <|
   E0 (F0 (fB (bD n) a1 a0) a0.args.length ()) (iU)
def Q9 : Nat → (w5) → ((List u0)) → Option (u0 × Bool)
 | 0, _, _ => none
 | n + 1, a0, l0 =>
  bif (decide (a0.kind = 1)) then
   some (a0.type, true)
  else
   bif (decide (a0.kind = 2)) then
    chk (0 ≤ (wr .i64 ((wr .i64 ((↑l0.length : Int) - 1)) - a0.index)) ∧ (wr .i64 ((wr .i64 ((↑l0.length : Int) - 1)) - a0.index)) < (↑l0.length : Int)) <|
    some ((get l0 ((wr .i64 ((wr .i64 ((↑l0.length : Int) - 1)) - a0.index)).toNat)), true)
   else
    bif (decide (a0.kind = 3)) then
     chk (0 ≤ (↑l0.length : Int) ∧ 0 ≤ (↑l0.length : Int)) <|
     eV (l0 ++ [a0.type]) fun c8 =>
     chk (c8.length * 40 ≤ top ∧ c8.length ≤ top) <|
     chk (0 < (↑a0.args.length : Int)) <|
     (Q9 n (get a0.args 0) c8).bind fun v14 =>
     some ((u0.mk [] [a0.type, v14.1]), v14.2)
    else
     chk (0 < (↑a0.args.length : Int)) <|
     (Q9 n (get a0.args 0) l0).bind fun v17 =>
     chk (1 < (↑a0.args.length : Int)) <|
     (Q9 n (get a0.args 1) l0).bind fun v19 =>
     chk (aN (!(bif (bif (!v17.2) then true else (!v19.2)) then true else (!decide ((↑v17.1.args.length : Int) = 2)))) (0 < (↑v17.1.args.length : Int))) <|
     (gd (!(bif (bif (!v17.2) then true else (!v19.2)) then true else (!decide ((↑v17.1.args.length : Int) = 2)))) (bD n (get v17.1.args 0) v19.1) default).bind fun v22 =>
     bif (bif (bif (bif (!v17.2) then true else (!v19.2)) then true else (!decide ((↑v17.1.args.length : Int) = 2))) then true else (!v22)) then
      some ((u0.mk [] []), false)
     else
      chk (1 < (↑v17.1.args.length : Int)) <|
      some ((get v17.1.args 1), true)
def bX : Nat → (w5) → ((List u0)) → Option (u0 × Bool)
 | 0, _, _ => none
 | n + 1, a0, a1 =>
  bif (decide (a0.kind = 1)) then
   some (a0.type, true)
  else
   bif (decide (a0.kind = 2)) then
    chk (0 ≤ (wr .i64 ((wr .i64 ((↑a1.length : Int) - 1)) - a0.index)) ∧ (wr .i64 ((wr .i64 ((↑a1.length : Int) - 1)) - a0.index)) < (↑a1.length : Int)) <|
    some ((get a1 ((wr .i64 ((wr .i64 ((↑a1.length : Int) - 1)) - a0.index)).toNat)), true)
   else
    bif (decide (a0.kind = 3)) then
     chk (0 ≤ (↑a1.length : Int) ∧ 0 ≤ (↑a1.length : Int)) <|
     eV (a1 ++ [a0.type]) fun c6 =>
     chk (c6.length * 40 ≤ top ∧ c6.length ≤ top) <|
     chk (0 < (↑a0.args.length : Int)) <|
     (Q9 n (get a0.args 0) c6).bind fun v12 =>
     some ((u0.mk [] [a0.type, v12.1]), v12.2)
    else
     chk (0 < (↑a0.args.length : Int)) <|
     (bX n (get a0.args 0) a1).bind fun v15 =>
     chk (1 < (↑a0.args.length : Int)) <|
     (bX n (get a0.args 1) a1).bind fun v17 =>
     chk (aN (!(bif (bif (!v15.2) then true else (!v17.2)) then true else (!decide ((↑v15.1.args.length : Int) = 2)))) (0 < (↑v15.1.args.length : Int))) <|
     (gd (!(bif (bif (!v15.2) then true else (!v17.2)) then true else (!decide ((↑v15.1.args.length : Int) = 2)))) (bD n (get v15.1.args 0) v17.1) default).bind fun v20 =>
     bif (bif (bif (bif (!v15.2) then true else (!v17.2)) then true else (!decide ((↑v15.1.args.length : Int) = 2))) then true else (!v20)) then
      some ((u0.mk [] []), false)
     else
      chk (1 < (↑v15.1.args.length : Int)) <|
      some ((get v15.1.args 1), true)
def cL (n : Nat) (a0 : w5) : Option (y7) :=
 (T8 n a0 1 0 0).bind fun v1 =>
 bif (!decide (v1.1.code = 0)) then
  some v1.1
 else
  (bX n a0 []).bind fun v2 =>
  bif (!v2.2) then
   some (y7.mk 12 (-1))
  else
   some (y7.mk 0 0)
def fU (n : Nat) (a0 : w4) (a1 : A9) (a2 : u6) : Option (Int) :=
 bif (bif (bif (bif (decide (a2.kids < 1)) then true else (decide (3 < a2.kids))) then true else (decide (a2.weight < 0))) then true else (decide (1000000 < a2.weight))) then
  some 3
 else
  (cu n a0 a1 a2.graph).bind fun v1 =>
  bif (!decide (v1.code = 0)) then
   some v1.code
  else
   (dh n a2.graph a2.kids).bind fun v2 =>
   bif (!v2) then
    some 5
   else
    (cL n a2.meaning).bind fun v3 =>
    some v3.code
end Go.Proofs.YtaohdfpcdfbnlaaGreatDoor
namespace Go.Proofs.YtaohdfpcdfbnlaaGreatDoor
open Go Go.Am
def J7 (a0 : Bs) (s0 : Nat × Int) : Option (Ctl (Int) (Nat × Int) (Int)) :=
 bif (decide (s0.1 < a0.length)) then
  some (.nxt ((s0.1 + kW a0 s0.1), (wr .i64 (s0.2 + 1))))
 else
  some (.brk s0.2)
def M0 (t0 : Int) : Option (Int) :=
 some t0
def J3 (n : Nat) (a0 : Bs) : Option (Int) :=
 E0 (ct (J7 a0) n (0, 0)) (M0)
def E8 (a0 : Bs) : Option (Int) :=
 bif false then
  chk (0 < (↑a0.length : Int)) <|
  chk (1 < (↑a0.length : Int)) <|
  chk (2 < (↑a0.length : Int)) <|
  chk (3 < (↑a0.length : Int)) <|
  some (M1 .or .u64 (M1 .or .u64 (M1 .or .u64 (wr .u64 (C7 a0 0)) (wr .u64 ((wr .u64 (C7 a0 1)) * 2 ^ (min 8 64)))) (wr .u64 ((wr .u64 (C7 a0 2)) * 2 ^ (min 16 64)))) (wr .u64 ((wr .u64 (C7 a0 3)) * 2 ^ (min 24 64))))
 else
  chk (0 < (↑a0.length : Int)) <|
  chk (1 < (↑a0.length : Int)) <|
  chk (2 < (↑a0.length : Int)) <|
  chk (3 < (↑a0.length : Int)) <|
  chk (4 < (↑a0.length : Int)) <|
  chk (5 < (↑a0.length : Int)) <|
  chk (6 < (↑a0.length : Int)) <|
  chk (7 < (↑a0.length : Int)) <|
  some (M1 .or .u64 (M1 .or .u64 (M1 .or .u64 (M1 .or .u64 (M1 .or .u64 (M1 .or .u64 (M1 .or .u64 (wr .u64 (C7 a0 0)) (wr .u64 ((wr .u64 (C7 a0 1)) * 2 ^ (min 8 64)))) (wr .u64 ((wr .u64 (C7 a0 2)) * 2 ^ (min 16 64)))) (wr .u64 ((wr .u64 (C7 a0 3)) * 2 ^ (min 24 64)))) (wr .u64 ((wr .u64 (C7 a0 4)) * 2 ^ (min 32 64)))) (wr .u64 ((wr .u64 (C7 a0 5)) * 2 ^ (min 40 64)))) (wr .u64 ((wr .u64 (C7 a0 6)) * 2 ^ (min 48 64)))) (wr .u64 ((wr .u64 (C7 a0 7)) * 2 ^ (min 56 64))))
def I9 (j3 : Bs) : Option (Ctl (Bool) (Bs) (Unit)) :=
 some (.nxt j3)
def K4 (s4 : Bs) : Option (Ctl (Ctl (Bool) (Bs) (Unit)) (Bs) (Bs)) :=
 (gd (decide (32 < (↑s4.length : Int))) (E8 s4) default).bind fun v100 =>
 chk (aN (decide (32 < (↑s4.length : Int))) (8 ≤ s4.length)) <|
 (gd (decide (32 < (↑s4.length : Int))) (E8 (s4.drop 8)) default).bind fun v103 =>
 chk (aN (decide (32 < (↑s4.length : Int))) (16 ≤ s4.length)) <|
 (gd (decide (32 < (↑s4.length : Int))) (E8 (s4.drop 16)) default).bind fun v106 =>
 chk (aN (decide (32 < (↑s4.length : Int))) (0 ≤ 24) ∧ aN (decide (32 < (↑s4.length : Int))) (24 ≤ s4.length)) <|
 (gd (decide (32 < (↑s4.length : Int))) (E8 (s4.drop 24)) default).bind fun v110 =>
 bif (bif (decide (32 < (↑s4.length : Int))) then (decide ((M1 .and .u64 (M1 .or .u64 (M1 .or .u64 v100 v103) (M1 .or .u64 v106 v110)) 9259542123273814144) = 0)) else false) then
  chk (0 ≤ 32 ∧ 32 ≤ s4.length) <|
  some (.nxt (s4.drop 32))
 else
  some (.brk s4)
def M4 (t4 : Bs) : Option (Ctl (Bool) (Bs) (Unit)) :=
 I9 t4
def K5 (n : Nat) (s0 : Bs) : Option (Ctl (Bool) (Bs) (Unit)) :=
 bif (decide (0 < (↑s0.length : Int))) then
  chk (0 < (↑s0.length : Int)) <|
  bif (decide ((C7 s0 0) < 128)) then
   chk (0 ≤ 1 ∧ 1 ≤ s0.length) <|
   (gd (decide (8 < (↑((s0.drop 1).length) : Int))) (E8 (s0.drop 1)) default).bind fun v78 =>
   bif (bif (decide (8 < (↑((s0.drop 1).length) : Int))) then (decide ((M1 .and .u64 v78 9259542123273814144) = 0)) else false) then
    chk (0 ≤ 8 ∧ 8 ≤ (s0.drop 1).length) <|
    (gd (decide (16 < (↑(((s0.drop 1).drop 8).length) : Int))) (E8 ((s0.drop 1).drop 8)) default).bind fun v81 =>
    chk (aN (decide (16 < (↑(((s0.drop 1).drop 8).length) : Int))) (8 ≤ ((s0.drop 1).drop 8).length)) <|
    (gd (decide (16 < (↑(((s0.drop 1).drop 8).length) : Int))) (E8 (((s0.drop 1).drop 8).drop 8)) default).bind fun v84 =>
    bif (bif (decide (16 < (↑(((s0.drop 1).drop 8).length) : Int))) then (decide ((M1 .and .u64 (M1 .or .u64 v81 v84) 9259542123273814144) = 0)) else false) then
     chk (0 ≤ 16 ∧ 16 ≤ ((s0.drop 1).drop 8).length) <|
     E0 (ct (K4) n (((s0.drop 1).drop 8).drop 16)) (M4)
    else
     I9 ((s0.drop 1).drop 8)
   else
    I9 (s0.drop 1)
  else
   chk (0 ≤ (C7 s0 0) ∧ (C7 s0 0) < 256) <|
   chk (0 ≤ (Int.fdiv (get gF ((C7 s0 0).toNat)) (2 ^ (min 4 8))) ∧ (Int.fdiv (get gF ((C7 s0 0).toNat)) (2 ^ (min 4 8))) < 16) <|
   bif (decide ((wr .i64 (M1 .and .u8 (get gF ((C7 s0 0).toNat)) 7)) = 2)) then
    chk (aN (!(decide ((↑s0.length : Int) < 2))) (1 < (↑s0.length : Int))) <|
    chk (aN (!(bif (decide ((↑s0.length : Int) < 2)) then true else (decide ((C7 s0 1) < ((get lX ((Int.fdiv (get gF ((C7 s0 0).toNat)) (2 ^ (min 4 8))).toNat)).lo))))) (1 < (↑s0.length : Int))) <|
    bif (bif (bif (decide ((↑s0.length : Int) < 2)) then true else (decide ((C7 s0 1) < ((get lX ((Int.fdiv (get gF ((C7 s0 0).toNat)) (2 ^ (min 4 8))).toNat)).lo)))) then true else (decide (((get lX ((Int.fdiv (get gF ((C7 s0 0).toNat)) (2 ^ (min 4 8))).toNat)).hi) < (C7 s0 1)))) then
     some (.ret false)
    else
     chk (0 ≤ 2 ∧ 2 ≤ s0.length) <|
     some (.nxt (s0.drop 2))
   else
    bif (decide ((wr .i64 (M1 .and .u8 (get gF ((C7 s0 0).toNat)) 7)) = 3)) then
     chk (aN (!(decide ((↑s0.length : Int) < 3))) (1 < (↑s0.length : Int))) <|
     chk (aN (!(bif (decide ((↑s0.length : Int) < 3)) then true else (decide ((C7 s0 1) < ((get lX ((Int.fdiv (get gF ((C7 s0 0).toNat)) (2 ^ (min 4 8))).toNat)).lo))))) (1 < (↑s0.length : Int))) <|
     chk (aN (!(bif (bif (decide ((↑s0.length : Int) < 3)) then true else (decide ((C7 s0 1) < ((get lX ((Int.fdiv (get gF ((C7 s0 0).toNat)) (2 ^ (min 4 8))).toNat)).lo)))) then true else (decide (((get lX ((Int.fdiv (get gF ((C7 s0 0).toNat)) (2 ^ (min 4 8))).toNat)).hi) < (C7 s0 1))))) (2 < (↑s0.length : Int))) <|
     chk (aN (!(bif (bif (bif (decide ((↑s0.length : Int) < 3)) then true else (decide ((C7 s0 1) < ((get lX ((Int.fdiv (get gF ((C7 s0 0).toNat)) (2 ^ (min 4 8))).toNat)).lo)))) then true else (decide (((get lX ((Int.fdiv (get gF ((C7 s0 0).toNat)) (2 ^ (min 4 8))).toNat)).hi) < (C7 s0 1)))) then true else (decide ((C7 s0 2) < 128)))) (2 < (↑s0.length : Int))) <|
     bif (bif (bif (bif (bif (decide ((↑s0.length : Int) < 3)) then true else (decide ((C7 s0 1) < ((get lX ((Int.fdiv (get gF ((C7 s0 0).toNat)) (2 ^ (min 4 8))).toNat)).lo)))) then true else (decide (((get lX ((Int.fdiv (get gF ((C7 s0 0).toNat)) (2 ^ (min 4 8))).toNat)).hi) < (C7 s0 1)))) then true else (decide ((C7 s0 2) < 128))) then true else (decide (191 < (C7 s0 2)))) then
      some (.ret false)
     else
      chk (0 ≤ 3 ∧ 3 ≤ s0.length) <|
      some (.nxt (s0.drop 3))
    else
     bif (decide ((wr .i64 (M1 .and .u8 (get gF ((C7 s0 0).toNat)) 7)) = 4)) then
      chk (aN (!(decide ((↑s0.length : Int) < 4))) (1 < (↑s0.length : Int))) <|
      chk (aN (!(bif (decide ((↑s0.length : Int) < 4)) then true else (decide ((C7 s0 1) < ((get lX ((Int.fdiv (get gF ((C7 s0 0).toNat)) (2 ^ (min 4 8))).toNat)).lo))))) (1 < (↑s0.length : Int))) <|
      chk (aN (!(bif (bif (decide ((↑s0.length : Int) < 4)) then true else (decide ((C7 s0 1) < ((get lX ((Int.fdiv (get gF ((C7 s0 0).toNat)) (2 ^ (min 4 8))).toNat)).lo)))) then true else (decide (((get lX ((Int.fdiv (get gF ((C7 s0 0).toNat)) (2 ^ (min 4 8))).toNat)).hi) < (C7 s0 1))))) (2 < (↑s0.length : Int))) <|
      chk (aN (!(bif (bif (bif (decide ((↑s0.length : Int) < 4)) then true else (decide ((C7 s0 1) < ((get lX ((Int.fdiv (get gF ((C7 s0 0).toNat)) (2 ^ (min 4 8))).toNat)).lo)))) then true else (decide (((get lX ((Int.fdiv (get gF ((C7 s0 0).toNat)) (2 ^ (min 4 8))).toNat)).hi) < (C7 s0 1)))) then true else (decide ((C7 s0 2) < 128)))) (2 < (↑s0.length : Int))) <|
      chk (aN (!(bif (bif (bif (bif (decide ((↑s0.length : Int) < 4)) then true else (decide ((C7 s0 1) < ((get lX ((Int.fdiv (get gF ((C7 s0 0).toNat)) (2 ^ (min 4 8))).toNat)).lo)))) then true else (decide (((get lX ((Int.fdiv (get gF ((C7 s0 0).toNat)) (2 ^ (min 4 8))).toNat)).hi) < (C7 s0 1)))) then true else (decide ((C7 s0 2) < 128))) then true else (decide (191 < (C7 s0 2))))) (3 < (↑s0.length : Int))) <|
      chk (aN (!(bif (bif (bif (bif (bif (decide ((↑s0.length : Int) < 4)) then true else (decide ((C7 s0 1) < ((get lX ((Int.fdiv (get gF ((C7 s0 0).toNat)) (2 ^ (min 4 8))).toNat)).lo)))) then true else (decide (((get lX ((Int.fdiv (get gF ((C7 s0 0).toNat)) (2 ^ (min 4 8))).toNat)).hi) < (C7 s0 1)))) then true else (decide ((C7 s0 2) < 128))) then true else (decide (191 < (C7 s0 2)))) then true else (decide ((C7 s0 3) < 128)))) (3 < (↑s0.length : Int))) <|
      bif (bif (bif (bif (bif (bif (bif (decide ((↑s0.length : Int) < 4)) then true else (decide ((C7 s0 1) < ((get lX ((Int.fdiv (get gF ((C7 s0 0).toNat)) (2 ^ (min 4 8))).toNat)).lo)))) then true else (decide (((get lX ((Int.fdiv (get gF ((C7 s0 0).toNat)) (2 ^ (min 4 8))).toNat)).hi) < (C7 s0 1)))) then true else (decide ((C7 s0 2) < 128))) then true else (decide (191 < (C7 s0 2)))) then true else (decide ((C7 s0 3) < 128))) then true else (decide (191 < (C7 s0 3)))) then
       some (.ret false)
      else
       chk (0 ≤ 4 ∧ 4 ≤ s0.length) <|
       some (.nxt (s0.drop 4))
     else
      some (.ret false)
 else
  some (.brk ())
def U5 (t0 : Unit) : Option (Bool) :=
 some true
def L8 (n : Nat) (a0 : Bs) : Option (Bool) :=
 E0 (ct (K5 n) n a0) (U5)
def Z8 (a0 : Bs) (a1 : Int) : Option (Int) :=
 (indexByte a0 a1).bind fun v1 =>
 some v1
def V7 (a0 : Int) : Option (Bool) :=
 bif (bif (decide (0 ≤ a0)) then (decide (a0 < 55296)) else false) then
  some true
 else
  bif (bif (decide (57343 < a0)) then (decide (a0 ≤ 1114111)) else false) then
   some true
  else
   some false
def Y6 (a0 : Bs) (s0 : Nat) : Option (Ctl (Int) (Nat) (Unit)) :=
 bif (decide (s0 < a0.length)) then
  chk (s0 < a0.length) <|
  bif (decide ((rune a0 s0) = 65533)) then
   some (.ret (↑s0 : Int))
  else
   some (.nxt (s0 + kW a0 s0))
 else
  some (.brk ())
def cw (t0 : Unit) : Option (Int) :=
 some (-1)
def cx (a1 : Int) (j2 : Int) (a0 : Bs) (s3 : Int) : Option (Ctl (Ctl (Int) (Unit) (Unit)) (Int) (Unit)) :=
 bif (decide (s3 < (↑((I3 a1).length) : Int))) then
  chk (0 ≤ (wr .i64 (j2 - s3)) ∧ (wr .i64 (j2 - s3)) < (↑a0.length : Int)) <|
  chk (0 ≤ (wr .i64 ((wr .i64 ((↑((I3 a1).length) : Int) - 1)) - s3)) ∧ (wr .i64 ((wr .i64 ((↑((I3 a1).length) : Int) - 1)) - s3)) < (↑((I3 a1).length) : Int)) <|
  bif (!decide ((C7 a0 (wr .i64 (j2 - s3))) = (C7 (I3 a1) (wr .i64 ((wr .i64 ((↑((I3 a1).length) : Int) - 1)) - s3))))) then
   none
  else
   some (.nxt (wr .i64 (s3 + 1)))
 else
  some (.brk ())
def cA (j2 : Int) (a1 : Int) (t3 : Unit) : Option (Ctl (Int) (Unit) (Unit)) :=
 some (.ret (wr .i64 (j2 - (wr .i64 ((↑((I3 a1).length) : Int) - 1)))))
def Y7 (n : Nat) (a1 : Int) (a0 : Bs) (j2 : Int) : Option (Ctl (Int) (Unit) (Unit)) :=
 E0 (ct (cx a1 j2 a0) n 1) (cA j2 a1)
def R0 (n : Nat) (a1 : Int) (a0 : Bs) (s1 : Unit) : Option (Ctl (Int) (Unit) (Unit)) :=
 bif (decide ((wr .i64 ((↑((I3 a1).length) : Int) - 1)) < (↑a0.length : Int))) then
  chk (0 ≤ (wr .i64 ((↑((I3 a1).length) : Int) - 1)) ∧ (wr .i64 ((↑((I3 a1).length) : Int) - 1)) < (↑a0.length : Int)) <|
  chk ((wr .i64 ((↑((I3 a1).length) : Int) - 1)) < (↑((I3 a1).length) : Int)) <|
  bif (!decide ((C7 a0 (wr .i64 ((↑((I3 a1).length) : Int) - 1))) = (C7 (I3 a1) (wr .i64 ((↑((I3 a1).length) : Int) - 1))))) then
   chk (0 ≤ (wr .i64 ((wr .i64 ((↑((I3 a1).length) : Int) - 1)) + 1)) ∧ (wr .i64 ((wr .i64 ((↑((I3 a1).length) : Int) - 1)) + 1)).toNat ≤ a0.length) <|
   (Z8 (a0.drop ((wr .i64 ((wr .i64 ((↑((I3 a1).length) : Int) - 1)) + 1)).toNat)) (C7 (I3 a1) (wr .i64 ((↑((I3 a1).length) : Int) - 1)))).bind fun v10 =>
   bif (decide (v10 < 0)) then
    some (.ret (-1))
   else
    Y7 n a1 a0 (wr .i64 ((wr .i64 ((↑((I3 a1).length) : Int) - 1)) + (wr .i64 (v10 + 1))))
  else
   Y7 n a1 a0 (wr .i64 ((↑((I3 a1).length) : Int) - 1))
 else
  some (.brk ())
def cB (t1 : Unit) : Option (Int) :=
 some (-1)
def T2 (n : Nat) (a0 : Bs) (a1 : Int) : Option (Int) :=
 bif (bif (decide (0 ≤ a1)) then (decide (a1 < 128)) else false) then
  (Z8 a0 (wr .u8 a1)).bind fun v1 =>
  some v1
 else
  bif (decide (a1 = 65533)) then
   E0 (ct (Y6 a0) n 0) (cw)
  else
   (V7 a1).bind fun v4 =>
   bif (!v4) then
    some (-1)
   else
    E0 (ct (R0 n a1 a0) n ()) (cB)
end Go.Proofs.YtaohdfpcdfbnlaaGreatDoor
namespace Go.Proofs.YtaohdfpcdfbnlaaGreatDoor
open Go Go.Am
def W7 (a0 : Int) : Option (Bool) :=
 some (decide (8 < a0))
def Y8 (n : Nat) (a0 : Bs) (j0 : Int) : Option (Int) :=
 (T2 n a0 j0).bind fun v2 =>
 some v2
def Y9 (n : Nat) (a0 : Bs) (a1 : Bs) (s2 : Nat) : Option (Ctl (Int) (Nat) (Unit)) :=
 bif (decide (s2 < a0.length)) then
  chk (s2 < a0.length) <|
  (T2 n a1 (rune a0 s2)).bind fun v7 =>
  bif (decide (0 ≤ v7)) then
   some (.ret (↑s2 : Int))
  else
   some (.nxt (s2 + kW a0 s2))
 else
  some (.brk ())
def cC (t2 : Unit) : Option (Int) :=
 some (-1)
def Z0 (n : Nat) (a0 : Bs) (a1 : Bs) (j1 : Unit) : Option (Int) :=
 E0 (ct (Y9 n a0 a1) n 0) (cC)
def ck (n : Nat) (a0 : Bs) (a1 : Bs) : Option (Int) :=
 bif (decide (a1 = [])) then
  some (-1)
 else
  bif (decide ((↑a1.length : Int) = 1)) then
   chk (0 < (↑a1.length : Int)) <|
   bif (decide (128 ≤ (wr .i32 (C7 a1 0)))) then
    Y8 n a0 65533
   else
    Y8 n a0 (wr .i32 (C7 a1 0))
  else
   (W7 (↑a0.length : Int)).bind fun v3 =>
   bif v3 then
    none
   else
    Z0 n a0 a1 ()
def dn (n : Nat) (a0 : Bs) (a1 : Bs) : Option (Int) :=
 bif decide (8 < a0.length) then chk (2 ≤ a1.length ∧ a0.length < 4294967281 ∧ a1.length < 4294967281 ∧ a1.all (fun b => decide (b.toNat < 128)) = true) (some (Lib.indexAny a0 a1))
 else ck n a0 a1
def T9 (n : Nat) (a0 : Bs) (a1 : Bs) : Option (Bool) :=
 (dn n a0 a1).bind fun v1 =>
 some (decide (0 ≤ v1))
def fV (n : Nat) (a0 : Bs) : Option (Bool) :=
 (J3 n a0).bind fun v1 =>
 (gd (bif (decide (1 ≤ v1)) then (decide (v1 ≤ 30)) else false) (L8 n a0) default).bind fun v2 =>
 (gd (bif (bif (decide (1 ≤ v1)) then (decide (v1 ≤ 30)) else false) then v2 else false) (T9 n a0 [32, 9, 10, 40, 41, 91, 93, 44, 59]) default).bind fun v3 =>
 some (bif (bif (bif (decide (1 ≤ v1)) then (decide (v1 ≤ 30)) else false) then v2 else false) then (!v3) else false)
def eA (n : Nat) (a0 : w4) (a1 : A9) (a2 : w9) : Option (Int) :=
 (fV n a2.word).bind fun v1 =>
 bif (!v1) then
  some 10
 else
  bif (bif (decide (a2.weight < 0)) then true else (decide (1000000 < a2.weight))) then
   some 3
  else
   (cu n a0 a1 a2.graph).bind fun v2 =>
   bif (!decide (v2.code = 0)) then
    some v2.code
   else
    (cL n a2.meaning).bind fun v3 =>
    some v3.code
def aE (n : Nat) (a0 : x5) (v4 : A9) (k0 : Nat) (s0 : (List (Bs × Int))) : Option (Ctl (y7) ((List (Bs × Int))) ((List (Bs × Int)))) :=
 (termName ((get a0.rules k0).name)).bind fun v12 =>
 bif (!v12) then
  (P7 10 (↑k0 : Int)).bind fun v13 =>
  some (.ret v13)
 else
  bif (assoc ((get a0.rules k0).name) s0).isSome then
   (P7 7 (↑k0 : Int)).bind fun v14 =>
   some (.ret v14)
  else
   eV (K1 ((get a0.rules k0).name) (↑k0 : Int) s0) fun c15 =>
   (fU n a0.hierarchy v4 (get a0.rules k0)).bind fun v17 =>
   bif (!decide (v17 = 0)) then
    (P7 v17 (↑k0 : Int)).bind fun v18 =>
    some (.ret v18)
   else
    some (.nxt c15)
def aF (n : Nat) (a0 : x5) (v4 : A9) (k1 : Nat) (s1 : Unit) : Option (Ctl (y7) (Unit) (Unit)) :=
 (eA n a0.hierarchy v4 (get a0.D0 k1)).bind fun v19 =>
 bif (!decide (v19 = 0)) then
  (P7 v19 (↑k1 : Int)).bind fun v20 =>
  some (.ret v20)
 else
  some (.nxt ())
def aG (n : Nat) (a0 : x5) (v4 : A9) (t1 : Unit) : Option (y7) :=
 (cu n a0.hierarchy v4 a0.start).bind fun v21 =>
 bif (!decide (v21.code = 0)) then
  (P7 v21.code (-1)).bind fun v22 =>
  some v22
 else
  some (y7.mk 0 0)
def aH (n : Nat) (a0 : x5) (v4 : A9) (t0 : (List (Bs × Int))) : Option (y7) :=
 E0 (F0 (aF n a0 v4) a0.D0.length ()) (aG n a0 v4)
def R2 (n : Nat) (a0 : x5) : Option (y7) :=
 (W6 a0.hierarchy).bind fun v1 =>
 bif (!decide (v1.code = 0)) then
  some v1
 else
  bif (decide ((↑a0.hierarchy.C9.length : Int) ≤ 3)) then
   (P7 9 (-1)).bind fun v2 =>
   some v2
  else
   bif (bif (decide (40 < (↑a0.rules.length : Int))) then true else (decide (100 < (↑a0.D0.length : Int)))) then
    (P7 2 (-1)).bind fun v3 =>
    some v3
   else
    (W5 a0.hierarchy.types).bind fun v4 =>
    E0 (F0 (aE n a0 v4) a0.rules.length []) (aH n a0 v4)
end Go.Proofs.YtaohdfpcdfbnlaaGreatDoor
namespace Go.Proofs.YtaohdfpcdfbnlaaGreatDoor
open Go Go.Am
def bN (a1 : (List Int)) (a0 : (List Int)) (k0 : Nat) (s0 : Unit) : Option (Ctl (Bool) (Unit) (Unit)) :=
 chk ((↑k0 : Int) < (↑a1.length : Int)) <|
 bif (!decide ((get a0 k0) = (get a1 k0))) then
  some (.ret false)
 else
  some (.nxt ())
def bO (t0 : Unit) : Option (Bool) :=
 some true
def P9 (a0 : (List Int)) (a1 : (List Int)) : Option (Bool) :=
 bif (!decide ((↑a0.length : Int) = (↑a1.length : Int))) then
  some false
 else
  E0 (F0 (bN a1 a0) a0.length ()) (bO)
def T4 (a0 : w7) (a1 : w7) : Option (Bool) :=
 (gd (decide (a0.name = a1.name)) (P9 a0.parents a1.parents) default).bind fun v1 =>
 some (bif (decide (a0.name = a1.name)) then v1 else false)
def G3 (a1 : (List w7)) (a0 : (List w7)) (k0 : Nat) (s0 : Unit) : Option (Ctl (Bool) (Unit) (Unit)) :=
 chk ((↑k0 : Int) < (↑a1.length : Int)) <|
 (T4 (get a0 k0) (get a1 k0)).bind fun v2 =>
 bif (!v2) then
  some (.ret false)
 else
  some (.nxt ())
def G4 (t0 : Unit) : Option (Bool) :=
 some true
def F3 (a0 : (List w7)) (a1 : (List w7)) : Option (Bool) :=
 bif (!decide ((↑a0.length : Int) = (↑a1.length : Int))) then
  some false
 else
  E0 (F0 (G3 a1 a0) a0.length ()) (G4)
def O9 (a1 : (List x9)) (a0 : (List x9)) (k0 : Nat) (s0 : Unit) : Option (Ctl (Bool) (Unit) (Unit)) :=
 chk ((↑k0 : Int) < (↑a1.length : Int)) <|
 bif (!(decide ((get a0 k0).name = (get a1 k0).name) && (decide ((get a0 k0).of_ = (get a1 k0).of_) && (decide ((get a0 k0).value = (get a1 k0).value))))) then
  some (.ret false)
 else
  some (.nxt ())
def P0 (t0 : Unit) : Option (Bool) :=
 some true
def I7 (a0 : (List x9)) (a1 : (List x9)) : Option (Bool) :=
 bif (!decide ((↑a0.length : Int) = (↑a1.length : Int))) then
  some false
 else
  E0 (F0 (O9 a1 a0) a0.length ()) (P0)
def W1 (a0 : w4) (a1 : w4) : Option (Bool) :=
 (F3 a0.types a1.types).bind fun v1 =>
 (gd v1 (I7 a0.C9 a1.C9) default).bind fun v2 =>
 some (bif v1 then v2 else false)
def U6 (a0 : (List x9)) : Option (List x9) :=
 some a0
def dL (a0 : (List Int)) : Option (List Int) :=
 some a0
def aT (a0 : w4) (k0 : Nat) (s0 : (List w7)) : Option (Ctl (w4) ((List w7)) ((List w7))) :=
 (dL ((get a0.types k0).parents)).bind fun v9 =>
 eV (s0 ++ [(w7.mk ((get a0.types k0).name) v9)]) fun c11 =>
 chk (c11.length * 40 ≤ top ∧ c11.length ≤ top) <|
 some (.nxt c11)
def aU (v1 : (List x9)) (t0 : (List w7)) : Option (w4) :=
 some (w4.mk t0 v1)
def N4 (a0 : w4) : Option (w4) :=
 (U6 a0.C9).bind fun v1 =>
 E0 (F0 (aT a0) a0.types.length []) (aU v1)
def P1 (a1 : (List D8)) (a0 : (List D8)) (k0 : Nat) (s0 : Unit) : Option (Ctl (Bool) (Unit) (Unit)) :=
 chk ((↑k0 : Int) < (↑a1.length : Int)) <|
 bif (!(decide ((get a0 k0).nZ = (get a1 k0).nZ) && (decide ((get a0 k0).to_ = (get a1 k0).to_)))) then
  some (.ret false)
 else
  some (.nxt ())
def P2 (t0 : Unit) : Option (Bool) :=
 some true
def I8 (a0 : (List D8)) (a1 : (List D8)) : Option (Bool) :=
 bif (!decide ((↑a0.length : Int) = (↑a1.length : Int))) then
  some false
 else
  E0 (F0 (P1 a1 a0) a0.length ()) (P2)
end Go.Proofs.YtaohdfpcdfbnlaaGreatDoor
namespace Go.Proofs.YtaohdfpcdfbnlaaGreatDoor
open Go Go.Am
def bU (a0 : w8) (a1 : w8) : Option (Bool) :=
 (gd (decide (a0.type = a1.type)) (I8 a0.links a1.links) default).bind fun v1 =>
 some (bif (decide (a0.type = a1.type)) then v1 else false)
def G5 (a1 : (List w8)) (a0 : (List w8)) (k0 : Nat) (s0 : Unit) : Option (Ctl (Bool) (Unit) (Unit)) :=
 chk ((↑k0 : Int) < (↑a1.length : Int)) <|
 (bU (get a0 k0) (get a1 k0)).bind fun v2 =>
 bif (!v2) then
  some (.ret false)
 else
  some (.nxt ())
def G6 (t0 : Unit) : Option (Bool) :=
 some true
def F4 (a0 : (List w8)) (a1 : (List w8)) : Option (Bool) :=
 bif (!decide ((↑a0.length : Int) = (↑a1.length : Int))) then
  some false
 else
  E0 (F0 (G5 a1 a0) a0.length ()) (G6)
def Y4 (a0 : y5) (a1 : y5) : Option (Bool) :=
 (F4 a0.nodes a1.nodes).bind fun v1 =>
 some v1
def U7 (a0 : (List D8)) : Option (List D8) :=
 some a0
def dM (a0 : y5) (k0 : Nat) (s0 : (List w8)) : Option (Ctl (y5) ((List w8)) ((List w8))) :=
 (U7 ((get a0.nodes k0).links)).bind fun v8 =>
 eV (s0 ++ [(w8.mk ((get a0.nodes k0).type) v8)]) fun c10 =>
 chk (c10.length * 32 ≤ top ∧ c10.length ≤ top) <|
 some (.nxt c10)
def dN (t0 : (List w8)) : Option (y5) :=
 some (y5.mk t0)
def P5 (a0 : y5) : Option (y5) :=
 E0 (F0 (dM a0) a0.nodes.length []) (dN)
def F1 (L2 : (u0) → (u0) → Option (Bool)) (a1 : (List u0)) (a0 : (List u0)) (k0 : Nat) (s0 : Unit) : Option (Ctl (Bool) (Unit) (Unit)) :=
 chk ((↑k0 : Int) < (↑a1.length : Int)) <|
 (L2 (get a0 k0) (get a1 k0)).bind fun v2 =>
 bif (!v2) then
  some (.ret false)
 else
  some (.nxt ())
def F2 (t0 : Unit) : Option (Bool) :=
 some true
def E2 (L2 : (u0) → (u0) → Option (Bool)) (a0 : (List u0)) (a1 : (List u0)) : Option (Bool) :=
 bif (!decide ((↑a0.length : Int) = (↑a1.length : Int))) then
  some false
 else
  E0 (F0 (F1 L2 a1 a0) a0.length ()) (F2)
def P4 : Nat → (u0) → (u0) → Option (Bool)
 | 0, _, _ => none
 | n + 1, a0, a1 =>
  (gd (decide (a0.base = a1.base)) (E2 (P4 n) a0.args a1.args) default).bind fun v1 =>
  some (bif (decide (a0.base = a1.base)) then v1 else false)
def G7 (N6 : (w5) → (w5) → Option (Bool)) (a1 : (List w5)) (a0 : (List w5)) (k0 : Nat) (s0 : Unit) : Option (Ctl (Bool) (Unit) (Unit)) :=
 chk ((↑k0 : Int) < (↑a1.length : Int)) <|
 (N6 (get a0 k0) (get a1 k0)).bind fun v2 =>
 bif (!v2) then
  some (.ret false)
 else
  some (.nxt ())
def G8 (t0 : Unit) : Option (Bool) :=
 some true
def F5 (N6 : (w5) → (w5) → Option (Bool)) (a0 : (List w5)) (a1 : (List w5)) : Option (Bool) :=
 bif (!decide ((↑a0.length : Int) = (↑a1.length : Int))) then
  some false
 else
  E0 (F0 (G7 N6 a1 a0) a0.length ()) (G8)
def T5 : Nat → (w5) → (w5) → Option (Bool)
 | 0, _, _ => none
 | n + 1, a0, a1 =>
  (gd (bif (bif (decide (a0.kind = a1.kind)) then (decide (a0.name = a1.name)) else false) then (decide (a0.index = a1.index)) else false) (P4 n a0.type a1.type) default).bind fun v1 =>
  (gd (bif (bif (bif (decide (a0.kind = a1.kind)) then (decide (a0.name = a1.name)) else false) then (decide (a0.index = a1.index)) else false) then v1 else false) (F5 (T5 n) a0.args a1.args) default).bind fun v2 =>
  some (bif (bif (bif (bif (decide (a0.kind = a1.kind)) then (decide (a0.name = a1.name)) else false) then (decide (a0.index = a1.index)) else false) then v1 else false) then v2 else false)
end Go.Proofs.YtaohdfpcdfbnlaaGreatDoor
namespace Go.Proofs.YtaohdfpcdfbnlaaGreatDoor
open Go Go.Am
def K8 (n : Nat) (a0 : u6) (a1 : u6) : Option (Bool) :=
 (gd (bif (bif (decide (a0.name = a1.name)) then (decide (a0.kids = a1.kids)) else false) then (decide (a0.weight = a1.weight)) else false) (Y4 a0.graph a1.graph) default).bind fun v1 =>
 (gd (bif (bif (bif (decide (a0.name = a1.name)) then (decide (a0.kids = a1.kids)) else false) then (decide (a0.weight = a1.weight)) else false) then v1 else false) (T5 n a0.meaning a1.meaning) default).bind fun v2 =>
 some (bif (bif (bif (bif (decide (a0.name = a1.name)) then (decide (a0.kids = a1.kids)) else false) then (decide (a0.weight = a1.weight)) else false) then v1 else false) then v2 else false)
def pT (n : Nat) (a0 a1 : List u6) : Option (List (List Int)) :=
 chk ((a0.length + 1) * 24 ≤ top ∧ (a1.length + 1) * 8 ≤ top) <|
 chk ((a0.all fun x => a1.all fun y => (K8 n x y).isSome) = true) <|
 some (Lcs.tab (fun x y => (K8 n x y).getD false) a0 a1)
def R3 (n : Nat) (a0 : (List u6)) (a1 : (List u6)) (s3 : Int × Int × Int) : Option (Ctl (Ctl ((List u7)) ((List u7) × Int × Int) ((List u7))) (Int × Int × Int) (Int × Int × Int)) :=
 chk (aN (bif (decide (s3.2.1 < (↑a0.length : Int))) then (decide (s3.2.2 < (↑a1.length : Int))) else false) (0 ≤ s3.2.1) ∧ aN (bif (decide (s3.2.1 < (↑a0.length : Int))) then (decide (s3.2.2 < (↑a1.length : Int))) else false) (s3.2.1 < (↑a0.length : Int))) <|
 chk (aN (bif (decide (s3.2.1 < (↑a0.length : Int))) then (decide (s3.2.2 < (↑a1.length : Int))) else false) (0 ≤ s3.2.2) ∧ aN (bif (decide (s3.2.1 < (↑a0.length : Int))) then (decide (s3.2.2 < (↑a1.length : Int))) else false) (s3.2.2 < (↑a1.length : Int))) <|
 (gd (bif (decide (s3.2.1 < (↑a0.length : Int))) then (decide (s3.2.2 < (↑a1.length : Int))) else false) (K8 n (get a0 s3.2.1.toNat) (get a1 s3.2.2.toNat)) default).bind fun v83 =>
 bif (bif (bif (decide (s3.2.1 < (↑a0.length : Int))) then (decide (s3.2.2 < (↑a1.length : Int))) else false) then v83 else false) then
  some (.nxt ((wr .i64 (s3.1 + 1)), (wr .i64 (s3.2.1 + 1)), (wr .i64 (s3.2.2 + 1))))
 else
  some (.brk (s3.1, s3.2.1, s3.2.2))
def R4 (n : Nat) (a0 : (List u6)) (a1 : (List u6)) (v1 : (List (List Int))) (s4 : Int × (List u6) × Int × Int) : Option (Ctl (Ctl ((List u7)) ((List u7) × Int × Int) ((List u7))) (Int × (List u6) × Int × Int) (Int × (List u6) × Int × Int)) :=
 chk (aN ((bif (decide (s4.2.2.1 < (↑a0.length : Int))) then true else (decide (s4.2.2.2 < (↑a1.length : Int)))) && (bif (decide (s4.2.2.1 < (↑a0.length : Int))) then (decide (s4.2.2.2 < (↑a1.length : Int))) else false)) (0 ≤ s4.2.2.1) ∧ aN ((bif (decide (s4.2.2.1 < (↑a0.length : Int))) then true else (decide (s4.2.2.2 < (↑a1.length : Int)))) && (bif (decide (s4.2.2.1 < (↑a0.length : Int))) then (decide (s4.2.2.2 < (↑a1.length : Int))) else false)) (s4.2.2.1 < (↑a0.length : Int))) <|
 chk (aN ((bif (decide (s4.2.2.1 < (↑a0.length : Int))) then true else (decide (s4.2.2.2 < (↑a1.length : Int)))) && (bif (decide (s4.2.2.1 < (↑a0.length : Int))) then (decide (s4.2.2.2 < (↑a1.length : Int))) else false)) (0 ≤ s4.2.2.2) ∧ aN ((bif (decide (s4.2.2.1 < (↑a0.length : Int))) then true else (decide (s4.2.2.2 < (↑a1.length : Int)))) && (bif (decide (s4.2.2.1 < (↑a0.length : Int))) then (decide (s4.2.2.2 < (↑a1.length : Int))) else false)) (s4.2.2.2 < (↑a1.length : Int))) <|
 (gd ((bif (decide (s4.2.2.1 < (↑a0.length : Int))) then true else (decide (s4.2.2.2 < (↑a1.length : Int)))) && (bif (decide (s4.2.2.1 < (↑a0.length : Int))) then (decide (s4.2.2.2 < (↑a1.length : Int))) else false)) (K8 n (get a0 s4.2.2.1.toNat) (get a1 s4.2.2.2.toNat)) default).bind fun v117 =>
 bif (bif (bif (decide (s4.2.2.1 < (↑a0.length : Int))) then true else (decide (s4.2.2.2 < (↑a1.length : Int)))) then (!(bif (bif (decide (s4.2.2.1 < (↑a0.length : Int))) then (decide (s4.2.2.2 < (↑a1.length : Int))) else false) then v117 else false)) else false) then
  chk (aN ((!(decide (s4.2.2.2 = (↑a1.length : Int)))) && (decide (s4.2.2.1 < (↑a0.length : Int)))) (0 ≤ (wr .i64 (s4.2.2.1 + 1))) ∧ aN ((!(decide (s4.2.2.2 = (↑a1.length : Int)))) && (decide (s4.2.2.1 < (↑a0.length : Int)))) ((wr .i64 (s4.2.2.1 + 1)) < (↑v1.length : Int))) <|
  chk (aN ((!(decide (s4.2.2.2 = (↑a1.length : Int)))) && (decide (s4.2.2.1 < (↑a0.length : Int)))) (0 ≤ s4.2.2.2) ∧ aN ((!(decide (s4.2.2.2 = (↑a1.length : Int)))) && (decide (s4.2.2.1 < (↑a0.length : Int)))) (s4.2.2.2 < (↑((get v1 ((wr .i64 (s4.2.2.1 + 1)).toNat)).length) : Int))) <|
  chk (aN ((!(decide (s4.2.2.2 = (↑a1.length : Int)))) && (decide (s4.2.2.1 < (↑a0.length : Int)))) (0 ≤ s4.2.2.1) ∧ aN ((!(decide (s4.2.2.2 = (↑a1.length : Int)))) && (decide (s4.2.2.1 < (↑a0.length : Int)))) (s4.2.2.1 < (↑v1.length : Int))) <|
  chk (aN ((!(decide (s4.2.2.2 = (↑a1.length : Int)))) && (decide (s4.2.2.1 < (↑a0.length : Int)))) (0 ≤ (wr .i64 (s4.2.2.2 + 1))) ∧ aN ((!(decide (s4.2.2.2 = (↑a1.length : Int)))) && (decide (s4.2.2.1 < (↑a0.length : Int)))) ((wr .i64 (s4.2.2.2 + 1)) < (↑((get v1 s4.2.2.1.toNat).length) : Int))) <|
  bif (bif (decide (s4.2.2.2 = (↑a1.length : Int))) then true else (bif (decide (s4.2.2.1 < (↑a0.length : Int))) then (decide ((get (get v1 s4.2.2.1.toNat) ((wr .i64 (s4.2.2.2 + 1)).toNat)) ≤ (get (get v1 ((wr .i64 (s4.2.2.1 + 1)).toNat)) s4.2.2.2.toNat))) else false)) then
   some (.nxt ((wr .i64 (s4.1 + 1)), s4.2.1, (wr .i64 (s4.2.2.1 + 1)), s4.2.2.2))
  else
   chk (0 ≤ s4.2.2.2 ∧ s4.2.2.2 < (↑a1.length : Int)) <|
   eV (s4.2.1 ++ [(get a1 s4.2.2.2.toNat)]) fun c133 =>
   chk (c133.length * 152 ≤ top ∧ c133.length ≤ top) <|
   some (.nxt (s4.1, c133, s4.2.2.1, (wr .i64 (s4.2.2.2 + 1))))
 else
  some (.brk (s4.1, s4.2.1, s4.2.2.1, s4.2.2.2))
def Z1 (s0 : (List u7) × Int × Int) (t3 : Int × Int × Int) (t4 : Int × (List u6) × Int × Int) : Option (Ctl ((List u7)) ((List u7) × Int × Int) ((List u7))) :=
 chk ((s0.1.length + 1) * 40 ≤ top ∧ s0.1.length + 1 ≤ top) <|
 some (.nxt ((s0.1 ++ [(u7.mk t3.1 t4.1 t4.2.1)]), t4.2.2.1, t4.2.2.2))
def Z2 (n : Nat) (a0 : (List u6)) (a1 : (List u6)) (v1 : (List (List Int))) (s0 : (List u7) × Int × Int) (t3 : Int × Int × Int) : Option (Ctl ((List u7)) ((List u7) × Int × Int) ((List u7))) :=
 E0 (ct (R4 n a0 a1 v1) n (0, [], t3.2.1, t3.2.2)) (Z1 s0 t3)
def Z4 (n : Nat) (a0 : (List u6)) (a1 : (List u6)) (v1 : (List (List Int))) (s0 : (List u7) × Int × Int) : Option (Ctl ((List u7)) ((List u7) × Int × Int) ((List u7))) :=
 bif (bif (decide (s0.2.1 < (↑a0.length : Int))) then true else (decide (s0.2.2 < (↑a1.length : Int)))) then
  E0 (ct (R3 n a0 a1) n (0, s0.2.1, s0.2.2)) (Z2 n a0 a1 v1 s0)
 else
  some (.brk s0.1)
def cD (t0 : (List u7)) : Option ((List u7)) :=
 some t0
def Z9 (n : Nat) (a0 : (List u6)) (a1 : (List u6)) : Option ((List u7)) :=
 (pT n a0 a1).bind fun v1 =>
 E0 (ct (Z4 n a0 a1 v1) n ([], 0, 0)) (cD)
end Go.Proofs.YtaohdfpcdfbnlaaGreatDoor
namespace Go.Proofs.YtaohdfpcdfbnlaaGreatDoor
open Go Go.Am
def dr (self : (u0) → Option (u0)) (a0 : u0) (k0 : Nat) (s0 : (List u0)) : Option (Ctl (u0) ((List u0)) ((List u0))) :=
 (self (get a0.args k0)).bind fun v8 =>
 eV (s0 ++ [v8]) fun c10 =>
 chk (c10.length * 40 ≤ top ∧ c10.length ≤ top) <|
 some (.nxt c10)
def dw (a0 : u0) (t0 : (List u0)) : Option (u0) :=
 some (u0.mk a0.base t0)
def M8 : Nat → (u0) → Option (u0)
 | 0, _ => none
 | n + 1, a0 =>
  E0 (F0 (dr (M8 n) a0) a0.args.length []) (dw a0)
def eO (self : (w5) → Option (w5)) (a0 : w5) (k0 : Nat) (s0 : (List w5)) : Option (Ctl (w5) ((List w5)) ((List w5))) :=
 (self (get a0.args k0)).bind fun v9 =>
 eV (s0 ++ [v9]) fun c11 =>
 chk (c11.length * 96 ≤ top ∧ c11.length ≤ top) <|
 some (.nxt c11)
def eP (a0 : w5) (v1 : u0) (t0 : (List w5)) : Option (w5) :=
 some (w5.mk a0.kind a0.name a0.index v1 t0)
def O8 : Nat → (w5) → Option (w5)
 | 0, _ => none
 | n + 1, a0 =>
  (M8 n a0.type).bind fun v1 =>
  E0 (F0 (eO (O8 n) a0) a0.args.length []) (eP a0 v1)
def Y5 (n : Nat) (a0 : u6) : Option (u6) :=
 (P5 a0.graph).bind fun v1 =>
 (O8 n a0.meaning).bind fun v2 =>
 some (u6.mk a0.name v1 a0.kids a0.weight v2)
def L9 (n : Nat) (a0 : w9) (a1 : w9) : Option (Bool) :=
 (gd (bif (decide (a0.word = a1.word)) then (decide (a0.weight = a1.weight)) else false) (Y4 a0.graph a1.graph) default).bind fun v1 =>
 (gd (bif (bif (decide (a0.word = a1.word)) then (decide (a0.weight = a1.weight)) else false) then v1 else false) (T5 n a0.meaning a1.meaning) default).bind fun v2 =>
 some (bif (bif (bif (decide (a0.word = a1.word)) then (decide (a0.weight = a1.weight)) else false) then v1 else false) then v2 else false)
def uz (n : Nat) (a0 a1 : List w9) : Option (List (List Int)) :=
 chk ((a0.length + 1) * 24 ≤ top ∧ (a1.length + 1) * 8 ≤ top) <|
 chk ((a0.all fun x => a1.all fun y => (L9 n x y).isSome) = true) <|
 some (Lcs.tab (fun x y => (L9 n x y).getD false) a0 a1)
def U0 (n : Nat) (a0 : (List w9)) (a1 : (List w9)) (s3 : Int × Int × Int) : Option (Ctl (Ctl ((List u9)) ((List u9) × Int × Int) ((List u9))) (Int × Int × Int) (Int × Int × Int)) :=
 chk (aN (bif (decide (s3.2.1 < (↑a0.length : Int))) then (decide (s3.2.2 < (↑a1.length : Int))) else false) (0 ≤ s3.2.1) ∧ aN (bif (decide (s3.2.1 < (↑a0.length : Int))) then (decide (s3.2.2 < (↑a1.length : Int))) else false) (s3.2.1 < (↑a0.length : Int))) <|
 chk (aN (bif (decide (s3.2.1 < (↑a0.length : Int))) then (decide (s3.2.2 < (↑a1.length : Int))) else false) (0 ≤ s3.2.2) ∧ aN (bif (decide (s3.2.1 < (↑a0.length : Int))) then (decide (s3.2.2 < (↑a1.length : Int))) else false) (s3.2.2 < (↑a1.length : Int))) <|
 (gd (bif (decide (s3.2.1 < (↑a0.length : Int))) then (decide (s3.2.2 < (↑a1.length : Int))) else false) (L9 n (get a0 s3.2.1.toNat) (get a1 s3.2.2.toNat)) default).bind fun v83 =>
 bif (bif (bif (decide (s3.2.1 < (↑a0.length : Int))) then (decide (s3.2.2 < (↑a1.length : Int))) else false) then v83 else false) then
  some (.nxt ((wr .i64 (s3.1 + 1)), (wr .i64 (s3.2.1 + 1)), (wr .i64 (s3.2.2 + 1))))
 else
  some (.brk (s3.1, s3.2.1, s3.2.2))
def U1 (n : Nat) (a0 : (List w9)) (a1 : (List w9)) (v1 : (List (List Int))) (s4 : Int × (List w9) × Int × Int) : Option (Ctl (Ctl ((List u9)) ((List u9) × Int × Int) ((List u9))) (Int × (List w9) × Int × Int) (Int × (List w9) × Int × Int)) :=
 chk (aN ((bif (decide (s4.2.2.1 < (↑a0.length : Int))) then true else (decide (s4.2.2.2 < (↑a1.length : Int)))) && (bif (decide (s4.2.2.1 < (↑a0.length : Int))) then (decide (s4.2.2.2 < (↑a1.length : Int))) else false)) (0 ≤ s4.2.2.1) ∧ aN ((bif (decide (s4.2.2.1 < (↑a0.length : Int))) then true else (decide (s4.2.2.2 < (↑a1.length : Int)))) && (bif (decide (s4.2.2.1 < (↑a0.length : Int))) then (decide (s4.2.2.2 < (↑a1.length : Int))) else false)) (s4.2.2.1 < (↑a0.length : Int))) <|
 chk (aN ((bif (decide (s4.2.2.1 < (↑a0.length : Int))) then true else (decide (s4.2.2.2 < (↑a1.length : Int)))) && (bif (decide (s4.2.2.1 < (↑a0.length : Int))) then (decide (s4.2.2.2 < (↑a1.length : Int))) else false)) (0 ≤ s4.2.2.2) ∧ aN ((bif (decide (s4.2.2.1 < (↑a0.length : Int))) then true else (decide (s4.2.2.2 < (↑a1.length : Int)))) && (bif (decide (s4.2.2.1 < (↑a0.length : Int))) then (decide (s4.2.2.2 < (↑a1.length : Int))) else false)) (s4.2.2.2 < (↑a1.length : Int))) <|
 (gd ((bif (decide (s4.2.2.1 < (↑a0.length : Int))) then true else (decide (s4.2.2.2 < (↑a1.length : Int)))) && (bif (decide (s4.2.2.1 < (↑a0.length : Int))) then (decide (s4.2.2.2 < (↑a1.length : Int))) else false)) (L9 n (get a0 s4.2.2.1.toNat) (get a1 s4.2.2.2.toNat)) default).bind fun v117 =>
 bif (bif (bif (decide (s4.2.2.1 < (↑a0.length : Int))) then true else (decide (s4.2.2.2 < (↑a1.length : Int)))) then (!(bif (bif (decide (s4.2.2.1 < (↑a0.length : Int))) then (decide (s4.2.2.2 < (↑a1.length : Int))) else false) then v117 else false)) else false) then
  chk (aN ((!(decide (s4.2.2.2 = (↑a1.length : Int)))) && (decide (s4.2.2.1 < (↑a0.length : Int)))) (0 ≤ (wr .i64 (s4.2.2.1 + 1))) ∧ aN ((!(decide (s4.2.2.2 = (↑a1.length : Int)))) && (decide (s4.2.2.1 < (↑a0.length : Int)))) ((wr .i64 (s4.2.2.1 + 1)) < (↑v1.length : Int))) <|
  chk (aN ((!(decide (s4.2.2.2 = (↑a1.length : Int)))) && (decide (s4.2.2.1 < (↑a0.length : Int)))) (0 ≤ s4.2.2.2) ∧ aN ((!(decide (s4.2.2.2 = (↑a1.length : Int)))) && (decide (s4.2.2.1 < (↑a0.length : Int)))) (s4.2.2.2 < (↑((get v1 ((wr .i64 (s4.2.2.1 + 1)).toNat)).length) : Int))) <|
  chk (aN ((!(decide (s4.2.2.2 = (↑a1.length : Int)))) && (decide (s4.2.2.1 < (↑a0.length : Int)))) (0 ≤ s4.2.2.1) ∧ aN ((!(decide (s4.2.2.2 = (↑a1.length : Int)))) && (decide (s4.2.2.1 < (↑a0.length : Int)))) (s4.2.2.1 < (↑v1.length : Int))) <|
  chk (aN ((!(decide (s4.2.2.2 = (↑a1.length : Int)))) && (decide (s4.2.2.1 < (↑a0.length : Int)))) (0 ≤ (wr .i64 (s4.2.2.2 + 1))) ∧ aN ((!(decide (s4.2.2.2 = (↑a1.length : Int)))) && (decide (s4.2.2.1 < (↑a0.length : Int)))) ((wr .i64 (s4.2.2.2 + 1)) < (↑((get v1 s4.2.2.1.toNat).length) : Int))) <|
  bif (bif (decide (s4.2.2.2 = (↑a1.length : Int))) then true else (bif (decide (s4.2.2.1 < (↑a0.length : Int))) then (decide ((get (get v1 s4.2.2.1.toNat) ((wr .i64 (s4.2.2.2 + 1)).toNat)) ≤ (get (get v1 ((wr .i64 (s4.2.2.1 + 1)).toNat)) s4.2.2.2.toNat))) else false)) then
   some (.nxt ((wr .i64 (s4.1 + 1)), s4.2.1, (wr .i64 (s4.2.2.1 + 1)), s4.2.2.2))
  else
   chk (0 ≤ s4.2.2.2 ∧ s4.2.2.2 < (↑a1.length : Int)) <|
   eV (s4.2.1 ++ [(get a1 s4.2.2.2.toNat)]) fun c133 =>
   chk (c133.length * 144 ≤ top ∧ c133.length ≤ top) <|
   some (.nxt (s4.1, c133, s4.2.2.1, (wr .i64 (s4.2.2.2 + 1))))
 else
  some (.brk (s4.1, s4.2.1, s4.2.2.1, s4.2.2.2))
def aI (s0 : (List u9) × Int × Int) (t3 : Int × Int × Int) (t4 : Int × (List w9) × Int × Int) : Option (Ctl ((List u9)) ((List u9) × Int × Int) ((List u9))) :=
 chk ((s0.1.length + 1) * 40 ≤ top ∧ s0.1.length + 1 ≤ top) <|
 some (.nxt ((s0.1 ++ [(u9.mk t3.1 t4.1 t4.2.1)]), t4.2.2.1, t4.2.2.2))
def aJ (n : Nat) (a0 : (List w9)) (a1 : (List w9)) (v1 : (List (List Int))) (s0 : (List u9) × Int × Int) (t3 : Int × Int × Int) : Option (Ctl ((List u9)) ((List u9) × Int × Int) ((List u9))) :=
 E0 (ct (U1 n a0 a1 v1) n (0, [], t3.2.1, t3.2.2)) (aI s0 t3)
def aK (n : Nat) (a0 : (List w9)) (a1 : (List w9)) (v1 : (List (List Int))) (s0 : (List u9) × Int × Int) : Option (Ctl ((List u9)) ((List u9) × Int × Int) ((List u9))) :=
 bif (bif (decide (s0.2.1 < (↑a0.length : Int))) then true else (decide (s0.2.2 < (↑a1.length : Int)))) then
  E0 (ct (U0 n a0 a1) n (0, s0.2.1, s0.2.2)) (aJ n a0 a1 v1 s0)
 else
  some (.brk s0.1)
def dx (t0 : (List u9)) : Option ((List u9)) :=
 some t0
def aV (n : Nat) (a0 : (List w9)) (a1 : (List w9)) : Option ((List u9)) :=
 (uz n a0 a1).bind fun v1 =>
 E0 (ct (aK n a0 a1 v1) n ([], 0, 0)) (dx)
end Go.Proofs.YtaohdfpcdfbnlaaGreatDoor
namespace Go.Proofs.YtaohdfpcdfbnlaaGreatDoor
open Go Go.Am
def aP (n : Nat) (a0 : w9) : Option (w9) :=
 (P5 a0.graph).bind fun v1 =>
 (O8 n a0.meaning).bind fun v2 =>
 some (w9.mk a0.word v1 a0.weight v2)
def cY (n : Nat) (a0 : x5) (a1 : x5) (k0 : Nat) (s0 : Unit) : Option (Ctl (C5 × y7) (Unit) (Unit)) :=
 (R2 n (get [a0, a1] k0)).bind fun v4 =>
 bif (!decide (v4.code = 0)) then
  some (.ret ((C5.mk [] [] [] []), v4))
 else
  some (.nxt ())
def fW (n : Nat) (v11 : (List u7)) (k3 : Nat) (k5 : Nat) (s5 : (List u6)) : Option (Ctl (Ctl (C5 × y7) ((List y8)) ((List y8))) ((List u6)) ((List u6))) :=
 (Y5 n (get ((get v11 k3).put) k5)).bind fun v35 =>
 eV (s5 ++ [v35]) fun c37 =>
 chk (c37.length * 152 ≤ top ∧ c37.length ≤ top) <|
 some (.nxt c37)
def cW (s3 : (List y8)) (v11 : (List u7)) (k3 : Nat) (t5 : (List u6)) : Option (Ctl (C5 × y7) ((List y8)) ((List y8))) :=
 chk ((s3.length + 1) * 40 ≤ top ∧ s3.length + 1 ≤ top) <|
 some (.nxt (s3 ++ [(y8.mk ((get v11 k3).keep) ((get v11 k3).drop) t5)]))
def aQ (n : Nat) (v11 : (List u7)) (k3 : Nat) (s3 : (List y8)) : Option (Ctl (C5 × y7) ((List y8)) ((List y8))) :=
 E0 (F0 (fW n v11 k3) (((get v11 k3).put).length) []) (cW s3 v11 k3)
def fX (n : Nat) (v45 : (List u9)) (k6 : Nat) (k8 : Nat) (s8 : (List w9)) : Option (Ctl (Ctl (C5 × y7) ((List B6)) ((List B6))) ((List w9)) ((List w9))) :=
 (aP n (get ((get v45 k6).put) k8)).bind fun v69 =>
 eV (s8 ++ [v69]) fun c71 =>
 chk (c71.length * 144 ≤ top ∧ c71.length ≤ top) <|
 some (.nxt c71)
def cX (s6 : (List B6)) (v45 : (List u9)) (k6 : Nat) (t8 : (List w9)) : Option (Ctl (C5 × y7) ((List B6)) ((List B6))) :=
 chk ((s6.length + 1) * 40 ≤ top ∧ s6.length + 1 ≤ top) <|
 some (.nxt (s6 ++ [(B6.mk ((get v45 k6).keep) ((get v45 k6).drop) t8)]))
def aR (n : Nat) (v45 : (List u9)) (k6 : Nat) (s6 : (List B6)) : Option (Ctl (C5 × y7) ((List B6)) ((List B6))) :=
 E0 (F0 (fX n v45 k6) (((get v45 k6).put).length) []) (cX s6 v45 k6)
def fY (j1 : (List w4)) (j2 : (List y5)) (t3 : (List y8)) (t6 : (List B6)) : Option (C5 × y7) :=
 some ((C5.mk j1 j2 t3 t6), (y7.mk 0 0))
def cZ (n : Nat) (a0 : x5) (a1 : x5) (j1 : (List w4)) (j2 : (List y5)) (t3 : (List y8)) : Option (C5 × y7) :=
 (aV n a0.D0 a1.D0).bind fun v45 =>
 E0 (F0 (aR n v45) v45.length []) (fY j1 j2 t3)
def W2 (n : Nat) (a0 : x5) (a1 : x5) (j1 : (List w4)) (j2 : (List y5)) : Option (C5 × y7) :=
 (Z9 n a0.rules a1.rules).bind fun v11 =>
 E0 (F0 (aQ n v11) v11.length []) (cZ n a0 a1 j1 j2)
def W3 (n : Nat) (a0 : x5) (a1 : x5) (j1 : (List w4)) : Option (C5 × y7) :=
 (Y4 a0.start a1.start).bind fun v8 =>
 bif (!v8) then
  (P5 a1.start).bind fun v9 =>
  W2 n a0 a1 j1 [v9]
 else
  W2 n a0 a1 j1 []
def dc (n : Nat) (a0 : x5) (a1 : x5) (t0 : Unit) : Option (C5 × y7) :=
 (W1 a0.hierarchy a1.hierarchy).bind fun v5 =>
 bif (!v5) then
  (N4 a1.hierarchy).bind fun v6 =>
  W3 n a0 a1 [v6]
 else
  W3 n a0 a1 []
def P6 (n : Nat) (a0 : x5) (a1 : x5) : Option (C5 × y7) :=
 E0 (F0 (cY n a0 a1) 2 ()) (dc n a0 a1)
end Go.Proofs.YtaohdfpcdfbnlaaGreatDoor
namespace Go.Proofs.YtaohdfpcdfbnlaaGreatDoor
open Go Go.Am
def fZ (a0 : Int) (a1 : Int) : Option (y7) :=
 some (y7.mk a0 a1)
def fH (a0 : Int) (a1 : Int) (a2 : Int) : Option (Bool) :=
 some (bif (bif (bif (bif (decide (a0 < 0)) then true else (decide (a1 < 0))) then true else (decide (100 < a0))) then true else (decide (100 < a1))) then true else (decide (100 < a2)))
def gG (a0 : C5) (k0 : Nat) (s0 : Unit) : Option (Ctl (y7) (Unit) (Unit)) :=
 (fH ((get a0.rules k0).keep) ((get a0.rules k0).drop) (↑(((get a0.rules k0).put).length) : Int)).bind fun v2 =>
 bif v2 then
  (fZ 3 (↑k0 : Int)).bind fun v3 =>
  some (.ret v3)
 else
  some (.nxt ())
def gI (a0 : C5) (k1 : Nat) (s1 : Unit) : Option (Ctl (y7) (Unit) (Unit)) :=
 (fH ((get a0.D0 k1).keep) ((get a0.D0 k1).drop) (↑(((get a0.D0 k1).put).length) : Int)).bind fun v4 =>
 bif v4 then
  (fZ 3 (wr .i64 ((↑a0.rules.length : Int) + (↑k1 : Int)))).bind fun v5 =>
  some (.ret v5)
 else
  some (.nxt ())
def jD (t1 : Unit) : Option (y7) :=
 some (y7.mk 0 0)
def gH (a0 : C5) (t0 : Unit) : Option (y7) :=
 E0 (F0 (gI a0) a0.D0.length ()) (jD)
def iz (a0 : C5) : Option (y7) :=
 bif (bif (bif (bif (decide (1 < (↑a0.hierarchy.length : Int))) then true else (decide (1 < (↑a0.start.length : Int)))) then true else (decide (300 < (↑a0.rules.length : Int)))) then true else (decide (300 < (↑a0.D0.length : Int)))) then
  (fZ 2 (-2)).bind fun v1 =>
  some v1
 else
  E0 (F0 (gG a0) a0.rules.length ()) (gH a0)
def iP (a0 : C5) (k0 : Nat) (s0 : Int) : Option (Ctl (Int × y7) (Int) (Int)) :=
 some (.nxt (wr .i64 (s0 + (wr .i64 (((get a0.rules k0).drop) + (↑(((get a0.rules k0).put).length) : Int))))))
def iR (a0 : C5) (k1 : Nat) (s1 : Int) : Option (Ctl (Int × y7) (Int) (Int)) :=
 some (.nxt (wr .i64 (s1 + (wr .i64 (((get a0.D0 k1).drop) + (↑(((get a0.D0 k1).put).length) : Int))))))
def lf (t1 : Int) : Option (Int × y7) :=
 some (t1, (y7.mk 0 0))
def iQ (a0 : C5) (t0 : Int) : Option (Int × y7) :=
 E0 (F0 (iR a0) a0.D0.length t0) (lf)
def dS (a0 : C5) : Option (Int × y7) :=
 (iz a0).bind fun v1 =>
 bif (!decide (v1.code = 0)) then
  some (0, v1)
 else
  E0 (F0 (iP a0) a0.rules.length (wr .i64 ((↑a0.hierarchy.length : Int) + (↑a0.start.length : Int)))) (iQ a0)
def bP (a0 : (List u6)) (l0 : (List u7)) (k0 : Nat) (s0 : (List u6) × Int) : Option (Ctl ((List u6) × Bool) ((List u6) × Int) ((List u6) × Int)) :=
 bif (decide ((wr .i64 ((↑a0.length : Int) - s0.2)) < (wr .i64 (((get l0 k0).keep) + ((get l0 k0).drop))))) then
  some (.ret ([], false))
 else
  chk (0 ≤ s0.2 ∧ 0 ≤ (wr .i64 (s0.2 + ((get l0 k0).keep))) ∧ s0.2.toNat ≤ (wr .i64 (s0.2 + ((get l0 k0).keep))).toNat ∧ (wr .i64 (s0.2 + ((get l0 k0).keep))).toNat ≤ a0.length) <|
  eV (s0.1 ++ ((a0.drop s0.2.toNat).take ((wr .i64 (s0.2 + ((get l0 k0).keep))).toNat - s0.2.toNat))) fun c24 =>
  chk (c24.length * 152 ≤ top ∧ c24.length ≤ top) <|
  eV (c24 ++ (get l0 k0).put) fun c29 =>
  chk (c29.length * 152 ≤ top ∧ c29.length ≤ top) <|
  some (.nxt (c29, (wr .i64 (s0.2 + (wr .i64 (((get l0 k0).keep) + ((get l0 k0).drop)))))))
def bQ (a0 : (List u6)) (t0 : (List u6) × Int) : Option ((List u6) × Bool) :=
 some (t0.1, (decide (t0.2 = (↑a0.length : Int))))
def dO (a0 : (List u6)) (l0 : (List u7)) : Option ((List u6) × Bool) :=
 chk (l0.length ≤ 9223372036854775807) <|
 E0 (F0 (bP a0 l0) l0.length ([], 0)) (bQ a0)
end Go.Proofs.YtaohdfpcdfbnlaaGreatDoor
namespace Go.Proofs.YtaohdfpcdfbnlaaGreatDoor
open Go Go.Am
def cE (a0 : (List w9)) (l0 : (List u9)) (k0 : Nat) (s0 : (List w9) × Int) : Option (Ctl ((List w9) × Bool) ((List w9) × Int) ((List w9) × Int)) :=
 bif (decide ((wr .i64 ((↑a0.length : Int) - s0.2)) < (wr .i64 (((get l0 k0).keep) + ((get l0 k0).drop))))) then
  some (.ret ([], false))
 else
  chk (0 ≤ s0.2 ∧ 0 ≤ (wr .i64 (s0.2 + ((get l0 k0).keep))) ∧ s0.2.toNat ≤ (wr .i64 (s0.2 + ((get l0 k0).keep))).toNat ∧ (wr .i64 (s0.2 + ((get l0 k0).keep))).toNat ≤ a0.length) <|
  eV (s0.1 ++ ((a0.drop s0.2.toNat).take ((wr .i64 (s0.2 + ((get l0 k0).keep))).toNat - s0.2.toNat))) fun c24 =>
  chk (c24.length * 144 ≤ top ∧ c24.length ≤ top) <|
  eV (c24 ++ (get l0 k0).put) fun c29 =>
  chk (c29.length * 144 ≤ top ∧ c29.length ≤ top) <|
  some (.nxt (c29, (wr .i64 (s0.2 + (wr .i64 (((get l0 k0).keep) + ((get l0 k0).drop)))))))
def cF (a0 : (List w9)) (t0 : (List w9) × Int) : Option ((List w9) × Bool) :=
 some (t0.1, (decide (t0.2 = (↑a0.length : Int))))
def eR (a0 : (List w9)) (l0 : (List u9)) : Option ((List w9) × Bool) :=
 chk (l0.length ≤ 9223372036854775807) <|
 E0 (F0 (cE a0 l0) l0.length ([], 0)) (cF a0)
def jE (n : Nat) (a0 : x5) (k0 : Nat) (s0 : (List u6)) : Option (Ctl (x5) ((List u6)) ((List u6))) :=
 (Y5 n (get a0.rules k0)).bind fun v10 =>
 eV (s0 ++ [v10]) fun c12 =>
 chk (c12.length * 152 ≤ top ∧ c12.length ≤ top) <|
 some (.nxt c12)
def jF (n : Nat) (a0 : x5) (k1 : Nat) (s1 : (List w9)) : Option (Ctl (x5) ((List w9)) ((List w9))) :=
 (aP n (get a0.D0 k1)).bind fun v24 =>
 eV (s1 ++ [v24]) fun c26 =>
 chk (c26.length * 144 ≤ top ∧ c26.length ≤ top) <|
 some (.nxt c26)
def jG (v1 : w4) (t0 : (List u6)) (v2 : y5) (t1 : (List w9)) : Option (x5) :=
 some (x5.mk v1 t0 t1 v2)
def jH (n : Nat) (a0 : x5) (v1 : w4) (v2 : y5) (t0 : (List u6)) : Option (x5) :=
 E0 (F0 (jF n a0) a0.D0.length []) (jG v1 t0 v2)
def pU (n : Nat) (a0 : x5) : Option (x5) :=
 (N4 a0.hierarchy).bind fun v1 =>
 (P5 a0.start).bind fun v2 =>
 E0 (F0 (jE n a0) a0.rules.length []) (jH n a0 v1 v2)
def jI (a1 : C5) (k0 : Nat) (s0 : (List u7)) : Option (Ctl (x5 × y7) ((List u7)) ((List u7))) :=
 eV (s0 ++ [(u7.mk ((get a1.rules k0).keep) ((get a1.rules k0).drop) ((get a1.rules k0).put))]) fun c10 =>
 chk (c10.length * 40 ≤ top ∧ c10.length ≤ top) <|
 some (.nxt c10)
def jJ (a1 : C5) (k1 : Nat) (s1 : (List u9)) : Option (Ctl (x5 × y7) ((List u9)) ((List u9))) :=
 eV (s1 ++ [(u9.mk ((get a1.D0 k1).keep) ((get a1.D0 k1).drop) ((get a1.D0 k1).put))]) fun c22 =>
 chk (c22.length * 40 ≤ top ∧ c22.length ≤ top) <|
 some (.nxt c22)
def jK (a1 : C5) (k2 : Nat) (s2 : (List w7) × (List x9)) : Option (Ctl (x5 × y7) ((List w7) × (List x9)) ((List w7) × (List x9))) :=
 some (.nxt ((get a1.hierarchy k2).types, (get a1.hierarchy k2).C9))
def jL (a1 : C5) (k3 : Nat) (s3 : (List w8)) : Option (Ctl (x5 × y7) ((List w8)) ((List w8))) :=
 some (.nxt ((get a1.start k3).nodes))
def jM (n : Nat) (a0 : x5) (t0 : (List u7)) (t1 : (List u9)) (t2 : (List w7) × (List x9)) (t3 : (List w8)) : Option (x5 × y7) :=
 (dO a0.rules t0).bind fun v27 =>
 (eR a0.D0 t1).bind fun v28 =>
 bif (bif (!v27.2) then true else (!v28.2)) then
  (fZ 9 (-2)).bind fun v29 =>
  some ((x5.mk (w4.mk [] []) [] [] (y5.mk [])), v29)
 else
  (R2 n (x5.mk (w4.mk t2.1 t2.2) v27.1 v28.1 (y5.mk t3))).bind fun v30 =>
  bif (!decide (v30.code = 0)) then
   (fZ v30.code (-3)).bind fun v31 =>
   some ((x5.mk (w4.mk [] []) [] [] (y5.mk [])), v31)
  else
   (pU n (x5.mk (w4.mk t2.1 t2.2) v27.1 v28.1 (y5.mk t3))).bind fun v32 =>
   some (v32, (y7.mk 0 0))
def jN (n : Nat) (a1 : C5) (a0 : x5) (t0 : (List u7)) (t1 : (List u9)) (t2 : (List w7) × (List x9)) : Option (x5 × y7) :=
 E0 (F0 (jL a1) a1.start.length a0.start.nodes) (jM n a0 t0 t1 t2)
def jO (n : Nat) (a1 : C5) (a0 : x5) (t0 : (List u7)) (t1 : (List u9)) : Option (x5 × y7) :=
 E0 (F0 (jK a1) a1.hierarchy.length (a0.hierarchy.types, a0.hierarchy.C9)) (jN n a1 a0 t0 t1)
def jP (n : Nat) (a1 : C5) (a0 : x5) (t0 : (List u7)) : Option (x5 × y7) :=
 E0 (F0 (jJ a1) a1.D0.length []) (jO n a1 a0 t0)
def pV (n : Nat) (a0 : x5) (a1 : C5) : Option (x5 × y7) :=
 (R2 n a0).bind fun v1 =>
 bif (!decide (v1.code = 0)) then
  some ((x5.mk (w4.mk [] []) [] [] (y5.mk [])), v1)
 else
  (iz a1).bind fun v2 =>
  bif (!decide (v2.code = 0)) then
   some ((x5.mk (w4.mk [] []) [] [] (y5.mk [])), v2)
  else
   E0 (F0 (jI a1) a1.rules.length []) (jP n a1 a0)
end Go.Proofs.YtaohdfpcdfbnlaaGreatDoor
namespace Go.Proofs.YtaohdfpcdfbnlaaGreatDoor
open Go Go.Am
def W8 (a1 : (List w7)) (a0 : (List w7)) (k0 : Nat) (s0 : Unit) : Option (Ctl (Bool) (Unit) (Unit)) :=
 chk ((↑k0 : Int) < (↑a1.length : Int)) <|
 (gd (!(!decide (((get a0 k0).name) = ((get a1 k0).name)))) (P9 ((get a0 k0).parents) ((get a1 k0).parents)) default).bind fun v4 =>
 bif (bif (!decide (((get a0 k0).name) = ((get a1 k0).name))) then true else (!v4)) then
  some (.ret false)
 else
  some (.nxt ())
def W9 (t0 : Unit) : Option (Bool) :=
 some true
def aW (a0 : (List w7)) (a1 : (List w7)) : Option (Bool) :=
 bif (!decide ((↑a0.length : Int) = (↑a1.length : Int))) then
  some false
 else
  E0 (F0 (W8 a1 a0) a0.length ()) (W9)
def R5 (a0 : w4) (a1 : w4) : Option (Bool) :=
 (aW a0.types a1.types).bind fun v1 =>
 (gd v1 (I7 a0.C9 a1.C9) default).bind fun v2 =>
 some (bif v1 then v2 else false)
def X0 (a1 : y5) (a0 : y5) (k0 : Nat) (s0 : Unit) : Option (Ctl (Bool) (Unit) (Unit)) :=
 chk ((↑k0 : Int) < (↑a1.nodes.length : Int)) <|
 (gd (!(!decide (((get a0.nodes k0).type) = ((get a1.nodes k0).type)))) (I8 ((get a0.nodes k0).links) ((get a1.nodes k0).links)) default).bind fun v5 =>
 bif (bif (!decide (((get a0.nodes k0).type) = ((get a1.nodes k0).type))) then true else (!v5)) then
  some (.ret false)
 else
  some (.nxt ())
def X1 (t0 : Unit) : Option (Bool) :=
 some true
def N2 (a0 : y5) (a1 : y5) : Option (Bool) :=
 bif (!decide ((↑a0.nodes.length : Int) = (↑a1.nodes.length : Int))) then
  some false
 else
  chk (a0.nodes.length ≤ 9223372036854775807) <|
  E0 (F0 (X0 a1 a0) a0.nodes.length ()) (X1)
def N7 (self : (u0) → (u0) → Option (Bool)) (a1 : u0) (a0 : u0) (k0 : Nat) (s0 : Unit) : Option (Ctl (Bool) (Unit) (Unit)) :=
 chk ((↑k0 : Int) < (↑a1.args.length : Int)) <|
 (self (get a0.args k0) (get a1.args k0)).bind fun v3 =>
 bif (!v3) then
  some (.ret false)
 else
  some (.nxt ())
def N8 (t0 : Unit) : Option (Bool) :=
 some true
def K0 : Nat → (u0) → (u0) → Option (Bool)
 | 0, _, _ => none
 | n + 1, a0, a1 =>
  bif (bif (!decide (a0.base = a1.base)) then true else (!decide ((↑a0.args.length : Int) = (↑a1.args.length : Int)))) then
   some false
  else
   chk (a0.args.length ≤ 9223372036854775807) <|
   E0 (F0 (N7 (K0 n) a1 a0) a0.args.length ()) (N8)
def R6 (self : (w5) → (w5) → Option (Bool)) (a1 : w5) (a0 : w5) (k0 : Nat) (s0 : Unit) : Option (Ctl (Bool) (Unit) (Unit)) :=
 chk ((↑k0 : Int) < (↑a1.args.length : Int)) <|
 (self (get a0.args k0) (get a1.args k0)).bind fun v4 =>
 bif (!v4) then
  some (.ret false)
 else
  some (.nxt ())
def R7 (t0 : Unit) : Option (Bool) :=
 some true
def J4 : Nat → (w5) → (w5) → Option (Bool)
 | 0, _, _ => none
 | n + 1, a0, a1 =>
  (gd (!(bif (bif (!decide (a0.kind = a1.kind)) then true else (!decide (a0.name = a1.name))) then true else (!decide (a0.index = a1.index)))) (K0 n a0.type a1.type) default).bind fun v1 =>
  bif (bif (bif (bif (bif (!decide (a0.kind = a1.kind)) then true else (!decide (a0.name = a1.name))) then true else (!decide (a0.index = a1.index))) then true else (!v1)) then true else (!decide ((↑a0.args.length : Int) = (↑a1.args.length : Int)))) then
   some false
  else
   chk (a0.args.length ≤ 9223372036854775807) <|
   E0 (F0 (R6 (J4 n) a1 a0) a0.args.length ()) (R7)
def X2 (n : Nat) (a1 : (List u6)) (a0 : (List u6)) (k0 : Nat) (s0 : Unit) : Option (Ctl (Bool) (Unit) (Unit)) :=
 chk ((↑k0 : Int) < (↑a1.length : Int)) <|
 (gd (!(bif (bif (!decide (((get a0 k0).name) = ((get a1 k0).name))) then true else (!decide (((get a0 k0).kids) = ((get a1 k0).kids)))) then true else (!decide (((get a0 k0).weight) = ((get a1 k0).weight))))) (N2 ((get a0 k0).graph) ((get a1 k0).graph)) default).bind fun v5 =>
 (gd (!(bif (bif (bif (!decide (((get a0 k0).name) = ((get a1 k0).name))) then true else (!decide (((get a0 k0).kids) = ((get a1 k0).kids)))) then true else (!decide (((get a0 k0).weight) = ((get a1 k0).weight)))) then true else (!v5))) (J4 n ((get a0 k0).meaning) ((get a1 k0).meaning)) default).bind fun v6 =>
 bif (bif (bif (bif (bif (!decide (((get a0 k0).name) = ((get a1 k0).name))) then true else (!decide (((get a0 k0).kids) = ((get a1 k0).kids)))) then true else (!decide (((get a0 k0).weight) = ((get a1 k0).weight)))) then true else (!v5)) then true else (!v6)) then
  some (.ret false)
 else
  some (.nxt ())
def X3 (t0 : Unit) : Option (Bool) :=
 some true
def aX (n : Nat) (a0 : (List u6)) (a1 : (List u6)) : Option (Bool) :=
 bif (!decide ((↑a0.length : Int) = (↑a1.length : Int))) then
  some false
 else
  E0 (F0 (X2 n a1 a0) a0.length ()) (X3)
def cG (n : Nat) (a0 : w9) (a1 : w9) : Option (Bool) :=
 (gd (bif (decide (a0.word = a1.word)) then (decide (a0.weight = a1.weight)) else false) (N2 a0.graph a1.graph) default).bind fun v1 =>
 (gd (bif (bif (decide (a0.word = a1.word)) then (decide (a0.weight = a1.weight)) else false) then v1 else false) (J4 n a0.meaning a1.meaning) default).bind fun v2 =>
 some (bif (bif (bif (decide (a0.word = a1.word)) then (decide (a0.weight = a1.weight)) else false) then v1 else false) then v2 else false)
end Go.Proofs.YtaohdfpcdfbnlaaGreatDoor
namespace Go.Proofs.YtaohdfpcdfbnlaaGreatDoor
open Go Go.Am
def X4 (n : Nat) (a1 : (List w9)) (a0 : (List w9)) (k0 : Nat) (s0 : Unit) : Option (Ctl (Bool) (Unit) (Unit)) :=
 chk ((↑k0 : Int) < (↑a1.length : Int)) <|
 (cG n (get a0 k0) (get a1 k0)).bind fun v2 =>
 bif (!v2) then
  some (.ret false)
 else
  some (.nxt ())
def X5 (t0 : Unit) : Option (Bool) :=
 some true
def aY (n : Nat) (a0 : (List w9)) (a1 : (List w9)) : Option (Bool) :=
 bif (!decide ((↑a0.length : Int) = (↑a1.length : Int))) then
  some false
 else
  E0 (F0 (X4 n a1 a0) a0.length ()) (X5)
def X6 (n : Nat) (a0 : x5) (a1 : x5) : Option (Bool) :=
 (R5 a0.hierarchy a1.hierarchy).bind fun v1 =>
 (gd v1 (aX n a0.rules a1.rules) default).bind fun v2 =>
 (gd (bif v1 then v2 else false) (aY n a0.D0 a1.D0) default).bind fun v3 =>
 (gd (bif (bif v1 then v2 else false) then v3 else false) (N2 a0.start a1.start) default).bind fun v4 =>
 some (bif (bif (bif v1 then v2 else false) then v3 else false) then v4 else false)
def J5 (n : Nat) : Option (Bool) :=
 (T6 n).bind fun v1 =>
 (T6 n).bind fun v2 =>
 chk (0 ≤ 1 ∧ 1 ≤ v2.D0.length) <|
 (P6 n v1 (x5.mk v2.hierarchy v2.rules (v2.D0.drop 1) v2.start)).bind fun v5 =>
 (dS v5.1).bind fun v6 =>
 (pV n v1 v5.1).bind fun v7 =>
 (gd (bif (bif (bif (decide (v5.2.code = 0)) then (decide (v6.2.code = 0)) else false) then (decide (v6.1 = 1)) else false) then (decide (v7.2.code = 0)) else false) (X6 n v7.1 (x5.mk v2.hierarchy v2.rules (v2.D0.drop 1) v2.start)) default).bind fun v8 =>
 some (bif (bif (bif (bif (decide (v5.2.code = 0)) then (decide (v6.2.code = 0)) else false) then (decide (v6.1 = 1)) else false) then (decide (v7.2.code = 0)) else false) then v8 else false)
def K9 (n : Nat) (a0 : x5) (a1 : x5) : Option (Bool) :=
 (J5 n).bind fun v1 =>
 bif (!v1) then
  some false
 else
  (P6 n a0 a1).bind fun v2 =>
  (P6 n a1 a0).bind fun v3 =>
  bif (bif (!decide (v2.2.code = 0)) then true else (!decide (v3.2.code = 0))) then
   some true
  else
   (dS v2.1).bind fun v4 =>
   (dS v3.1).bind fun v5 =>
   some (bif (bif (decide (v4.2.code = 0)) then (decide (v5.2.code = 0)) else false) then (decide (v4.1 = v5.1)) else false)
def L0 (n : Nat) (a0 : x5) (a1 : x5) (a2 : x5) : Option (Bool) :=
 (J5 n).bind fun v1 =>
 bif (!v1) then
  some false
 else
  (P6 n a0 a1).bind fun v2 =>
  (P6 n a1 a2).bind fun v3 =>
  (P6 n a0 a2).bind fun v4 =>
  bif (bif (bif (!decide (v2.2.code = 0)) then true else (!decide (v3.2.code = 0))) then true else (!decide (v4.2.code = 0))) then
   some true
  else
   (dS v2.1).bind fun v5 =>
   (dS v3.1).bind fun v6 =>
   (dS v4.1).bind fun v7 =>
   some (bif (bif (bif (decide (v5.2.code = 0)) then (decide (v6.2.code = 0)) else false) then (decide (v7.2.code = 0)) else false) then (decide (v7.1 ≤ (wr .i64 (v5.1 + v6.1)))) else false)
end Go.Proofs.YtaohdfpcdfbnlaaGreatDoor
namespace Go.Proofs.YtaohdfpcdfbnlaaGreatDoor
open Go Go.Am
end Go.Proofs.YtaohdfpcdfbnlaaGreatDoor

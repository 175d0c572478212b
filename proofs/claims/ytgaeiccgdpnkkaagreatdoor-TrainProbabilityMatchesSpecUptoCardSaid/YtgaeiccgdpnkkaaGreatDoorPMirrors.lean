import Derived.Test.YtgaeiccgdpnkkaaGreatDoorPHand
import Derived.Test.YtgaeiccgdpnkkaaGreatDoorPRowT
set_option linter.unusedVariables false
set_option linter.unusedSimpArgs false
namespace Go.Proofs.YtgaeiccgdpnkkaaGreatDoor
open Go Go.Am
def d3H (a0 : (List Yl)) (s0 : (List Bool) × Int) (k2 : Nat) (s2 : (List Bool)) : Option (Ctl (Ctl (Bool) ((List Bool) × Int) ((List Bool))) ((List Bool)) ((List Bool))) :=
 chk (0 ≤ (get ((get a0 s0.2.toNat).parents) k2) ∧ (get ((get a0 s0.2.toNat).parents) k2) < (↑s2.length : Int)) <|
 d6r (s2.set ((get ((get a0 s0.2.toNat).parents) k2).toNat) true) fun c44 =>
 some (.nxt c44)
def d3I (s0 : (List Bool) × Int) (t2 : (List Bool)) : Option (Ctl (Bool) ((List Bool) × Int) ((List Bool))) :=
 some (.nxt (t2, (wr .i64 (s0.2 - 1))))
def d3G (a2 : Int) (a0 : (List Yl)) (s0 : (List Bool) × Int) : Option (Ctl (Bool) ((List Bool) × Int) ((List Bool))) :=
 bif (decide (a2 < s0.2)) then
  chk (0 ≤ s0.2 ∧ s0.2 < (↑s0.1.length : Int)) <|
  bif (get s0.1 s0.2.toNat) then
   chk (s0.2 < (↑a0.length : Int)) <|
   YN (Zi (d3H a0 s0) (((get a0 s0.2.toNat).parents).length) s0.1) (d3I s0)
  else
   some (.nxt (s0.1, (wr .i64 (s0.2 - 1))))
 else
  some (.brk s0.1)
def d3J (a2 : Int) (t0 : (List Bool)) : Option (Bool) :=
 chk (0 ≤ a2 ∧ a2 < (↑t0.length : Int)) <|
 some (get t0 a2.toNat)
def Zd (n : Nat) (a0 : (List Yl)) (a1 : Int) (a2 : Int) : Option (Bool) :=
 chk (a0.length * 1 ≤ top ∧ a0.length ≤ top) <|
 chk (0 ≤ a1 ∧ a1 < (↑a0.length : Int)) <|
 d6r ((List.replicate a0.length (default : Bool)).set a1.toNat true) fun c8 =>
 YN (d2e (d3G a2 a0) n (c8, a1)) (d3J a2)
def d0l (a0 : Bs) : Option (Ye) :=
 some (Ye.mk a0 [])
def YS (a0 : Ye) (a1 : Ye) : Option (Ye) :=
 some (Ye.mk [] [a0, a1])
def d2B (a1 : (List Int)) (a0 : (List Bs)) (k0 : Nat) (s0 : (List Yl)) : Option (Ctl (Yo) ((List Yl)) ((List Yl))) :=
 bif (decide (0 < (↑k0 : Int))) then
  chk ((↑k0 : Int) < (↑a1.length : Int)) <|
  d6r (s0 ++ [(Yl.mk (get a0 k0) [(get a1 k0)])]) fun c14 =>
  chk (c14.length * 40 ≤ top ∧ c14.length ≤ top) <|
  some (.nxt c14)
 else
  chk ((s0.length + 1) * 40 ≤ top ∧ s0.length + 1 ≤ top) <|
  some (.nxt (s0 ++ [(Yl.mk (get a0 k0) [])]))
def d2C (a2 : (List Yw)) (t0 : (List Yl)) : Option (Yo) :=
 some (Yo.mk t0 a2)
def d3l (a0 : (List Bs)) (a1 : (List Int)) (a2 : (List Yw)) : Option (Yo) :=
 YN (Zi (d2B a1 a0) a0.length []) (d2C a2)
def Yu (a0 : Int) : Option (Yh) :=
 some (Yh.mk 2 [] a0 (Ye.mk [] []) [])
def YI (a0 : Yh) (a1 : Yh) : Option (Yh) :=
 some (Yh.mk 4 [] 0 (Ye.mk [] []) [a0, a1])
def YA (a0 : Ye) (a1 : Yh) : Option (Yh) :=
 some (Yh.mk 3 [] 0 a0 [a1])
def d4l (a0 : Bool) : Option ((List Yh)) :=
 (d0l [101]).bind fun v1 =>
 (d0l [116]).bind fun v2 =>
 (YS v1 v2).bind fun v3 =>
 (YS v3 v2).bind fun v4 =>
 (YS v1 v3).bind fun v5 =>
 (YS v3 v4).bind fun v6 =>
 (Yu 1).bind fun v7 =>
 (Yu 0).bind fun v8 =>
 (YI v7 v8).bind fun v9 =>
 (YA v3 v9).bind fun v10 =>
 (YA v4 v10).bind fun v11 =>
 (Yu 1).bind fun v12 =>
 (Yu 0).bind fun v13 =>
 (YI v12 v13).bind fun v14 =>
 (YA v3 v14).bind fun v15 =>
 (YA v6 v15).bind fun v16 =>
 (Yu 0).bind fun v17 =>
 (YA v3 v17).bind fun v18 =>
 (Yu 1).bind fun v19 =>
 (Yu 3).bind fun v20 =>
 (Yu 1).bind fun v21 =>
 (YI v20 v21).bind fun v22 =>
 (Yu 0).bind fun v23 =>
 (YI v22 v23).bind fun v24 =>
 (YA v1 v24).bind fun v25 =>
 (YI v19 v25).bind fun v26 =>
 (YA v1 v26).bind fun v27 =>
 (YA v4 v27).bind fun v28 =>
 (YA v5 v28).bind fun v29 =>
 (YS v2 v2).bind fun v30 =>
 (Yu 2).bind fun v31 =>
 (Yu 1).bind fun v32 =>
 (Yu 0).bind fun v33 =>
 (YI v32 v33).bind fun v34 =>
 (YI v31 v34).bind fun v35 =>
 (YA v1 v35).bind fun v36 =>
 (YA v3 v36).bind fun v37 =>
 (YA v30 v37).bind fun v38 =>
 (YS v2 v2).bind fun v39 =>
 (YS v2 v39).bind fun v40 =>
 (Yu 2).bind fun v41 =>
 (Yu 3).bind fun v42 =>
 (Yu 0).bind fun v43 =>
 (YI v42 v43).bind fun v44 =>
 (YI v41 v44).bind fun v45 =>
 (Yu 1).bind fun v46 =>
 (Yu 0).bind fun v47 =>
 (YI v46 v47).bind fun v48 =>
 (YI v45 v48).bind fun v49 =>
 (YA v3 v49).bind fun v50 =>
 (YA v4 v50).bind fun v51 =>
 (YA v40 v51).bind fun v52 =>
 (YA v4 v52).bind fun v53 =>
 bif a0 then
  (Yu 0).bind fun v55 =>
  (Yu 1).bind fun v56 =>
  (YI v55 v56).bind fun v57 =>
  (YA v4 v57).bind fun v58 =>
  (YA v3 v58).bind fun v59 =>
  (Yu 0).bind fun v60 =>
  (Yu 1).bind fun v61 =>
  (YI v60 v61).bind fun v62 =>
  (YA v6 v62).bind fun v63 =>
  (YA v3 v63).bind fun v64 =>
  (Yu 2).bind fun v65 =>
  (Yu 2).bind fun v66 =>
  (Yu 1).bind fun v67 =>
  (YI v66 v67).bind fun v68 =>
  (Yu 0).bind fun v69 =>
  (YI v68 v69).bind fun v70 =>
  (YA v1 v70).bind fun v71 =>
  (YI v65 v71).bind fun v72 =>
  (YA v1 v72).bind fun v73 =>
  (YA v5 v73).bind fun v74 =>
  (YA v4 v74).bind fun v75 =>
  some [v59, v64, v18, v75, v38, v53]
 else
  some [v11, v16, v18, v29, v38, v53]
def d3y (a0 : (List (List Int))) (k0 : Nat) (s2 : (List Zh) × Int) : Option (Ctl (Ctl (Yz) ((List Yq)) ((List Yq))) ((List Zh) × Int) ((List Zh))) :=
 bif (decide ((wr .i64 (s2.2 + 1)) < (↑((get a0 k0).length) : Int))) then
  chk (0 ≤ s2.2 ∧ s2.2 < (↑((get a0 k0).length) : Int)) <|
  chk (0 ≤ (wr .i64 (s2.2 + 1)) ∧ (wr .i64 (s2.2 + 1)) < (↑((get a0 k0).length) : Int)) <|
  d6r (s2.1 ++ [(Zh.mk (get (get a0 k0) s2.2.toNat) (get (get a0 k0) ((wr .i64 (s2.2 + 1)).toNat)))]) fun c38 =>
  chk (c38.length * 16 ≤ top ∧ c38.length ≤ top) <|
  some (.nxt (c38, (wr .i64 (s2.2 + 2))))
 else
  some (.brk s2.1)
def d3z (s0 : (List Yq)) (a0 : (List (List Int))) (k0 : Nat) (t2 : (List Zh)) : Option (Ctl (Yz) ((List Yq)) ((List Yq))) :=
 chk ((s0.length + 1) * 32 ≤ top ∧ s0.length + 1 ≤ top) <|
 some (.nxt (s0 ++ [(Yq.mk (get (get a0 k0) 0) t2)]))
def d3A (n : Nat) (a0 : (List (List Int))) (k0 : Nat) (s0 : (List Yq)) : Option (Ctl (Yz) ((List Yq)) ((List Yq))) :=
 chk (0 < (↑((get a0 k0).length) : Int)) <|
 YN (d2e (d3y a0 k0) n ([], 1)) (d3z s0 a0 k0)
def d3B (t0 : (List Yq)) : Option (Yz) :=
 some (Yz.mk t0)
def Zl (n : Nat) (a0 : (List (List Int))) : Option (Yz) :=
 YN (Zi (d3A n a0) a0.length []) (d3B)
def YM (a0 : Bs) (a1 : Ye) : Option (Yh) :=
 some (Yh.mk 1 a0 0 a1 [])
def d1p (v3 : Ye) (j0 : Int × Bs × Int × Bs × (List Ye) × (List Yh)) : Option (Yh) :=
 (YA v3 (Yh.mk j0.1 j0.2.1 j0.2.2.1 (Ye.mk j0.2.2.2.1 j0.2.2.2.2.1) j0.2.2.2.2.2)).bind fun v22 =>
 (YA v3 v22).bind fun v23 =>
 some v23
def d0J (a0 : Bs) (a1 : Bs) (a2 : Bool) : Option (Yh) :=
 (d0l [101]).bind fun v1 =>
 (d0l [116]).bind fun v2 =>
 (YS v1 v2).bind fun v3 =>
 (YS v3 v2).bind fun v4 =>
 (YM a0 v4).bind fun v5 =>
 (YS v2 v2).bind fun v6 =>
 (YS v2 v6).bind fun v7 =>
 (YM a1 v7).bind fun v8 =>
 (Yu 2).bind fun v9 =>
 (Yu 0).bind fun v10 =>
 (YI v9 v10).bind fun v11 =>
 (YI v8 v11).bind fun v12 =>
 (Yu 1).bind fun v13 =>
 (Yu 0).bind fun v14 =>
 (YI v13 v14).bind fun v15 =>
 (YI v12 v15).bind fun v16 =>
 (YA v1 v16).bind fun v17 =>
 (YI v5 v17).bind fun v18 =>
 bif a2 then
  (YS v2 v2).bind fun v19 =>
  (YM [110, 111, 116] v19).bind fun v20 =>
  (YI v20 v18).bind fun v21 =>
  d1p v3 (v21.kind, v21.name, v21.index, v21.type.base, v21.type.args, v21.args)
 else
  d1p v3 (v18.kind, v18.name, v18.index, v18.type.base, v18.type.args, v18.args)
def YE (n : Nat) (a0 : Bs) (a1 : Int) (a2 : Yh) (a3 : (List (List Int))) (d0m : (List Yl)) (p9u : (List Yw)) (p9v : (List Yi)) (l1 : (List YT)) (l2 : (List Yq)) : Option ((List YT)) :=
 (Zl n a3).bind fun v1 =>
 d6r (l1 ++ [(YT.mk a0 v1 a1 a2)]) fun c3 =>
 chk (c3.length * 144 ≤ top ∧ c3.length ≤ top) <|
 some c3
def d5k (n : Nat) : Option (Yn) :=
 (d0l [101]).bind fun v1 =>
 (d0l [116]).bind fun v2 =>
 (YS v1 v2).bind fun v3 =>
 (YS v1 v3).bind fun v4 =>
 (d3l [[116, 111, 112], [114, 117, 108, 101], [115, 105, 103, 110], [110, 117, 109], [115, 105, 110, 103], [112, 108, 117, 114], [115], [110, 112], [118, 112], [110], [100, 101, 116], [105, 118], [116, 118], [97, 100, 118], [99, 111, 110, 106]] [0, 0, 0, 0, 3, 3, 2, 2, 2, 2, 2, 2, 2, 2, 2] [(Yw.mk [109, 111, 116, 104, 101, 114] 1 2), (Yw.mk [111, 110, 101] 1 2), (Yw.mk [116, 119, 111] 1 2), (Yw.mk [116, 104, 114, 101, 101] 1 2), (Yw.mk [110, 117, 109] 2 3)]).bind fun v8 =>
 (d4l false).bind fun v9 =>
 chk (0 < (↑v9.length : Int)) <|
 (Zl n [[1, 0, 1, 1, 2, 2, 4], [6], [7, 4, 3], [3], [8, 4, 3]]).bind fun v17 =>
 chk (1 < (↑v9.length : Int)) <|
 (Zl n [[1, 0, 1, 1, 3, 2, 4], [7, 4, 2], [3], [10, 4, 2], [9, 4, 2]]).bind fun v25 =>
 chk (2 < (↑v9.length : Int)) <|
 (Zl n [[1, 0, 1, 1, 3], [8, 4, 2], [3], [11, 4, 2]]).bind fun v32 =>
 chk (3 < (↑v9.length : Int)) <|
 (Zl n [[1, 0, 1, 1, 3, 2, 4], [8, 4, 2], [3], [12, 4, 2], [7]]).bind fun v40 =>
 chk (4 < (↑v9.length : Int)) <|
 (Zl n [[1, 0, 1, 1, 3, 2, 4], [8, 4, 2], [3], [13], [8, 4, 2]]).bind fun v48 =>
 chk (5 < (↑v9.length : Int)) <|
 (Zl n [[1, 0, 1, 1, 3, 2, 4, 3, 5], [7, 4, 2], [5], [7], [14], [7]]).bind fun v57 =>
 (d0J [97, 108, 108] [105, 102] false).bind fun v59 =>
 (YE n [101, 118, 101, 114, 121] 1 v59 [[10, 4, 1], [4]] v8.types v8.YL [(Yi.mk [115] v17 2 0 (get v9 0)), (Yi.mk [110, 112] v25 2 1 (get v9 1)), (Yi.mk [118, 112, 45, 105, 118] v32 1 0 (get v9 2)), (Yi.mk [118, 112, 45, 116, 118] v40 2 2 (get v9 3)), (Yi.mk [118, 112, 45, 110, 111, 116] v48 2 3 (get v9 4)), (Yi.mk [110, 112, 45, 97, 110, 100] v57 3 4 (get v9 5))] [] []).bind fun v63 =>
 (d0J [115, 111, 109, 101] [97, 110, 100] false).bind fun v64 =>
 (YE n [97] 0 v64 [[10, 4, 1], [4]] v8.types v8.YL [(Yi.mk [115] v17 2 0 (get v9 0)), (Yi.mk [110, 112] v25 2 1 (get v9 1)), (Yi.mk [118, 112, 45, 105, 118] v32 1 0 (get v9 2)), (Yi.mk [118, 112, 45, 116, 118] v40 2 2 (get v9 3)), (Yi.mk [118, 112, 45, 110, 111, 116] v48 2 3 (get v9 4)), (Yi.mk [110, 112, 45, 97, 110, 100] v57 3 4 (get v9 5))] v63 []).bind fun v68 =>
 (d0J [115, 111, 109, 101] [97, 110, 100] true).bind fun v69 =>
 (YE n [110, 111] 2 v69 [[10]] v8.types v8.YL [(Yi.mk [115] v17 2 0 (get v9 0)), (Yi.mk [110, 112] v25 2 1 (get v9 1)), (Yi.mk [118, 112, 45, 105, 118] v32 1 0 (get v9 2)), (Yi.mk [118, 112, 45, 116, 118] v40 2 2 (get v9 3)), (Yi.mk [118, 112, 45, 110, 111, 116] v48 2 3 (get v9 4)), (Yi.mk [110, 112, 45, 97, 110, 100] v57 3 4 (get v9 5))] v68 []).bind fun v72 =>
 (YM [100, 111, 103] v3).bind fun v73 =>
 (YE n [100, 111, 103] 0 v73 [[9, 4, 1], [4]] v8.types v8.YL [(Yi.mk [115] v17 2 0 (get v9 0)), (Yi.mk [110, 112] v25 2 1 (get v9 1)), (Yi.mk [118, 112, 45, 105, 118] v32 1 0 (get v9 2)), (Yi.mk [118, 112, 45, 116, 118] v40 2 2 (get v9 3)), (Yi.mk [118, 112, 45, 110, 111, 116] v48 2 3 (get v9 4)), (Yi.mk [110, 112, 45, 97, 110, 100] v57 3 4 (get v9 5))] v72 []).bind fun v77 =>
 (YM [100, 111, 103] v3).bind fun v78 =>
 (YE n [100, 111, 103, 115] 0 v78 [[9, 4, 1], [5]] v8.types v8.YL [(Yi.mk [115] v17 2 0 (get v9 0)), (Yi.mk [110, 112] v25 2 1 (get v9 1)), (Yi.mk [118, 112, 45, 105, 118] v32 1 0 (get v9 2)), (Yi.mk [118, 112, 45, 116, 118] v40 2 2 (get v9 3)), (Yi.mk [118, 112, 45, 110, 111, 116] v48 2 3 (get v9 4)), (Yi.mk [110, 112, 45, 97, 110, 100] v57 3 4 (get v9 5))] v77 []).bind fun v82 =>
 (YM [99, 97, 116] v3).bind fun v83 =>
 (YE n [99, 97, 116] 0 v83 [[9, 4, 1], [4]] v8.types v8.YL [(Yi.mk [115] v17 2 0 (get v9 0)), (Yi.mk [110, 112] v25 2 1 (get v9 1)), (Yi.mk [118, 112, 45, 105, 118] v32 1 0 (get v9 2)), (Yi.mk [118, 112, 45, 116, 118] v40 2 2 (get v9 3)), (Yi.mk [118, 112, 45, 110, 111, 116] v48 2 3 (get v9 4)), (Yi.mk [110, 112, 45, 97, 110, 100] v57 3 4 (get v9 5))] v82 []).bind fun v87 =>
 (YM [99, 97, 116] v3).bind fun v88 =>
 (YE n [99, 97, 116, 115] 0 v88 [[9, 4, 1], [5]] v8.types v8.YL [(Yi.mk [115] v17 2 0 (get v9 0)), (Yi.mk [110, 112] v25 2 1 (get v9 1)), (Yi.mk [118, 112, 45, 105, 118] v32 1 0 (get v9 2)), (Yi.mk [118, 112, 45, 116, 118] v40 2 2 (get v9 3)), (Yi.mk [118, 112, 45, 110, 111, 116] v48 2 3 (get v9 4)), (Yi.mk [110, 112, 45, 97, 110, 100] v57 3 4 (get v9 5))] v87 []).bind fun v92 =>
 (YM [102, 105, 115, 104] v3).bind fun v93 =>
 (YE n [102, 105, 115, 104] 1 v93 [[9, 4, 1], [4]] v8.types v8.YL [(Yi.mk [115] v17 2 0 (get v9 0)), (Yi.mk [110, 112] v25 2 1 (get v9 1)), (Yi.mk [118, 112, 45, 105, 118] v32 1 0 (get v9 2)), (Yi.mk [118, 112, 45, 116, 118] v40 2 2 (get v9 3)), (Yi.mk [118, 112, 45, 110, 111, 116] v48 2 3 (get v9 4)), (Yi.mk [110, 112, 45, 97, 110, 100] v57 3 4 (get v9 5))] v92 []).bind fun v97 =>
 (YM [102, 105, 115, 104] v3).bind fun v98 =>
 (YE n [102, 105, 115, 104] 2 v98 [[9, 4, 1], [5]] v8.types v8.YL [(Yi.mk [115] v17 2 0 (get v9 0)), (Yi.mk [110, 112] v25 2 1 (get v9 1)), (Yi.mk [118, 112, 45, 105, 118] v32 1 0 (get v9 2)), (Yi.mk [118, 112, 45, 116, 118] v40 2 2 (get v9 3)), (Yi.mk [118, 112, 45, 110, 111, 116] v48 2 3 (get v9 4)), (Yi.mk [110, 112, 45, 97, 110, 100] v57 3 4 (get v9 5))] v97 []).bind fun v102 =>
 (YM [98, 97, 114, 107] v3).bind fun v103 =>
 (YE n [98, 97, 114, 107, 115] 0 v103 [[11, 4, 1], [4]] v8.types v8.YL [(Yi.mk [115] v17 2 0 (get v9 0)), (Yi.mk [110, 112] v25 2 1 (get v9 1)), (Yi.mk [118, 112, 45, 105, 118] v32 1 0 (get v9 2)), (Yi.mk [118, 112, 45, 116, 118] v40 2 2 (get v9 3)), (Yi.mk [118, 112, 45, 110, 111, 116] v48 2 3 (get v9 4)), (Yi.mk [110, 112, 45, 97, 110, 100] v57 3 4 (get v9 5))] v102 []).bind fun v107 =>
 (YM [98, 97, 114, 107] v3).bind fun v108 =>
 (YE n [98, 97, 114, 107] 0 v108 [[11, 4, 1], [5]] v8.types v8.YL [(Yi.mk [115] v17 2 0 (get v9 0)), (Yi.mk [110, 112] v25 2 1 (get v9 1)), (Yi.mk [118, 112, 45, 105, 118] v32 1 0 (get v9 2)), (Yi.mk [118, 112, 45, 116, 118] v40 2 2 (get v9 3)), (Yi.mk [118, 112, 45, 110, 111, 116] v48 2 3 (get v9 4)), (Yi.mk [110, 112, 45, 97, 110, 100] v57 3 4 (get v9 5))] v107 []).bind fun v112 =>
 (YM [115, 108, 101, 101, 112] v3).bind fun v113 =>
 (YE n [115, 108, 101, 101, 112, 115] 0 v113 [[11, 4, 1], [4]] v8.types v8.YL [(Yi.mk [115] v17 2 0 (get v9 0)), (Yi.mk [110, 112] v25 2 1 (get v9 1)), (Yi.mk [118, 112, 45, 105, 118] v32 1 0 (get v9 2)), (Yi.mk [118, 112, 45, 116, 118] v40 2 2 (get v9 3)), (Yi.mk [118, 112, 45, 110, 111, 116] v48 2 3 (get v9 4)), (Yi.mk [110, 112, 45, 97, 110, 100] v57 3 4 (get v9 5))] v112 []).bind fun v117 =>
 (YM [115, 108, 101, 101, 112] v3).bind fun v118 =>
 (YE n [115, 108, 101, 101, 112] 0 v118 [[11, 4, 1], [5]] v8.types v8.YL [(Yi.mk [115] v17 2 0 (get v9 0)), (Yi.mk [110, 112] v25 2 1 (get v9 1)), (Yi.mk [118, 112, 45, 105, 118] v32 1 0 (get v9 2)), (Yi.mk [118, 112, 45, 116, 118] v40 2 2 (get v9 3)), (Yi.mk [118, 112, 45, 110, 111, 116] v48 2 3 (get v9 4)), (Yi.mk [110, 112, 45, 97, 110, 100] v57 3 4 (get v9 5))] v117 []).bind fun v122 =>
 (YM [99, 104, 97, 115, 101] v4).bind fun v123 =>
 (YE n [99, 104, 97, 115, 101, 115] 0 v123 [[12, 4, 1], [4]] v8.types v8.YL [(Yi.mk [115] v17 2 0 (get v9 0)), (Yi.mk [110, 112] v25 2 1 (get v9 1)), (Yi.mk [118, 112, 45, 105, 118] v32 1 0 (get v9 2)), (Yi.mk [118, 112, 45, 116, 118] v40 2 2 (get v9 3)), (Yi.mk [118, 112, 45, 110, 111, 116] v48 2 3 (get v9 4)), (Yi.mk [110, 112, 45, 97, 110, 100] v57 3 4 (get v9 5))] v122 []).bind fun v127 =>
 (YM [99, 104, 97, 115, 101] v4).bind fun v128 =>
 (YE n [99, 104, 97, 115, 101] 0 v128 [[12, 4, 1], [5]] v8.types v8.YL [(Yi.mk [115] v17 2 0 (get v9 0)), (Yi.mk [110, 112] v25 2 1 (get v9 1)), (Yi.mk [118, 112, 45, 105, 118] v32 1 0 (get v9 2)), (Yi.mk [118, 112, 45, 116, 118] v40 2 2 (get v9 3)), (Yi.mk [118, 112, 45, 110, 111, 116] v48 2 3 (get v9 4)), (Yi.mk [110, 112, 45, 97, 110, 100] v57 3 4 (get v9 5))] v127 []).bind fun v132 =>
 (YM [115, 101, 101] v4).bind fun v133 =>
 (YE n [115, 101, 101, 115] 1 v133 [[12, 4, 1], [4]] v8.types v8.YL [(Yi.mk [115] v17 2 0 (get v9 0)), (Yi.mk [110, 112] v25 2 1 (get v9 1)), (Yi.mk [118, 112, 45, 105, 118] v32 1 0 (get v9 2)), (Yi.mk [118, 112, 45, 116, 118] v40 2 2 (get v9 3)), (Yi.mk [118, 112, 45, 110, 111, 116] v48 2 3 (get v9 4)), (Yi.mk [110, 112, 45, 97, 110, 100] v57 3 4 (get v9 5))] v132 []).bind fun v137 =>
 (YM [115, 101, 101] v4).bind fun v138 =>
 (YE n [115, 101, 101] 1 v138 [[12, 4, 1], [5]] v8.types v8.YL [(Yi.mk [115] v17 2 0 (get v9 0)), (Yi.mk [110, 112] v25 2 1 (get v9 1)), (Yi.mk [118, 112, 45, 105, 118] v32 1 0 (get v9 2)), (Yi.mk [118, 112, 45, 116, 118] v40 2 2 (get v9 3)), (Yi.mk [118, 112, 45, 110, 111, 116] v48 2 3 (get v9 4)), (Yi.mk [110, 112, 45, 97, 110, 100] v57 3 4 (get v9 5))] v137 []).bind fun v142 =>
 (YS v2 v2).bind fun v143 =>
 (YM [110, 111, 116] v143).bind fun v144 =>
 (YE n [110, 111, 116] 0 v144 [[13]] v8.types v8.YL [(Yi.mk [115] v17 2 0 (get v9 0)), (Yi.mk [110, 112] v25 2 1 (get v9 1)), (Yi.mk [118, 112, 45, 105, 118] v32 1 0 (get v9 2)), (Yi.mk [118, 112, 45, 116, 118] v40 2 2 (get v9 3)), (Yi.mk [118, 112, 45, 110, 111, 116] v48 2 3 (get v9 4)), (Yi.mk [110, 112, 45, 97, 110, 100] v57 3 4 (get v9 5))] v142 []).bind fun v147 =>
 (YS v2 v2).bind fun v148 =>
 (YS v2 v148).bind fun v149 =>
 (YM [97, 110, 100] v149).bind fun v150 =>
 (YE n [97, 110, 100] 0 v150 [[14]] v8.types v8.YL [(Yi.mk [115] v17 2 0 (get v9 0)), (Yi.mk [110, 112] v25 2 1 (get v9 1)), (Yi.mk [118, 112, 45, 105, 118] v32 1 0 (get v9 2)), (Yi.mk [118, 112, 45, 116, 118] v40 2 2 (get v9 3)), (Yi.mk [118, 112, 45, 110, 111, 116] v48 2 3 (get v9 4)), (Yi.mk [110, 112, 45, 97, 110, 100] v57 3 4 (get v9 5))] v147 []).bind fun v153 =>
 (Yu 0).bind fun v154 =>
 (YM [114, 101, 120] v1).bind fun v155 =>
 (YI v154 v155).bind fun v156 =>
 (YA v3 v156).bind fun v157 =>
 (YE n [114, 101, 120] 0 v157 [[7, 4, 1], [4]] v8.types v8.YL [(Yi.mk [115] v17 2 0 (get v9 0)), (Yi.mk [110, 112] v25 2 1 (get v9 1)), (Yi.mk [118, 112, 45, 105, 118] v32 1 0 (get v9 2)), (Yi.mk [118, 112, 45, 116, 118] v40 2 2 (get v9 3)), (Yi.mk [118, 112, 45, 110, 111, 116] v48 2 3 (get v9 4)), (Yi.mk [110, 112, 45, 97, 110, 100] v57 3 4 (get v9 5))] v153 []).bind fun v161 =>
 (Yu 0).bind fun v162 =>
 (YM [109, 105, 97] v1).bind fun v163 =>
 (YI v162 v163).bind fun v164 =>
 (YA v3 v164).bind fun v165 =>
 (YE n [109, 105, 97] 0 v165 [[7, 4, 1], [4]] v8.types v8.YL [(Yi.mk [115] v17 2 0 (get v9 0)), (Yi.mk [110, 112] v25 2 1 (get v9 1)), (Yi.mk [118, 112, 45, 105, 118] v32 1 0 (get v9 2)), (Yi.mk [118, 112, 45, 116, 118] v40 2 2 (get v9 3)), (Yi.mk [118, 112, 45, 110, 111, 116] v48 2 3 (get v9 4)), (Yi.mk [110, 112, 45, 97, 110, 100] v57 3 4 (get v9 5))] v161 []).bind fun v169 =>
 (Zl n [[6]]).bind fun v172 =>
 some (Yn.mk v8 [(Yi.mk [115] v17 2 0 (get v9 0)), (Yi.mk [110, 112] v25 2 1 (get v9 1)), (Yi.mk [118, 112, 45, 105, 118] v32 1 0 (get v9 2)), (Yi.mk [118, 112, 45, 116, 118] v40 2 2 (get v9 3)), (Yi.mk [118, 112, 45, 110, 111, 116] v48 2 3 (get v9 4)), (Yi.mk [110, 112, 45, 97, 110, 100] v57 3 4 (get v9 5))] v169 v172)
def ZU (a0 : Int) (a1 : Int) : Option (Yg) :=
 some (Yg.mk a0 a1)
def d9L (a0 : Bs) (k0 : Nat) (s0 : Unit) : Option (Ctl (Bool) (Unit) (Unit)) :=
 bif (!(bif (bif (bif (bif (decide (97 ≤ (Yx a0 (↑k0 : Int)))) then (decide ((Yx a0 (↑k0 : Int)) ≤ 122)) else false) then true else (bif (decide (48 ≤ (Yx a0 (↑k0 : Int)))) then (decide ((Yx a0 (↑k0 : Int)) ≤ 57)) else false)) then true else (decide ((Yx a0 (↑k0 : Int)) = 95))) then true else (decide ((Yx a0 (↑k0 : Int)) = 45)))) then
  some (.ret false)
 else
  some (.nxt ())
def d9M (t0 : Unit) : Option (Bool) :=
 some true
def termName (a0 : Bs) : Option (Bool) :=
 chk (d7C (!(bif (decide ((↑a0.length : Int) = 0)) then true else (decide (30 < (↑a0.length : Int))))) (0 < (↑a0.length : Int))) <|
 chk (d7C (!(bif (bif (decide ((↑a0.length : Int) = 0)) then true else (decide (30 < (↑a0.length : Int)))) then true else (decide ((Yx a0 0) < 97)))) (0 < (↑a0.length : Int))) <|
 bif (bif (bif (bif (decide ((↑a0.length : Int) = 0)) then true else (decide (30 < (↑a0.length : Int)))) then true else (decide ((Yx a0 0) < 97))) then true else (decide (122 < (Yx a0 0)))) then
  some false
 else
  chk (a0.length ≤ 9223372036854775807) <|
  YN (Zi (d9L a0) a0.length ()) (d9M)
def d5s (a0 : (List Yl)) (k0 : Nat) (k2 : Nat) (s2 : Int) : Option (Ctl (Ctl (Yg) ((List (Bs × Int))) ((List (Bs × Int)))) (Int) (Int)) :=
 bif (bif (decide ((get ((get a0 k0).parents) k2) < 0)) then true else (decide ((↑k0 : Int) ≤ (get ((get a0 k0).parents) k2)))) then
  (ZU 3 (↑k0 : Int)).bind fun v20 =>
  some (.ret (.ret v20))
 else
  bif (decide ((get ((get a0 k0).parents) k2) ≤ s2)) then
   (ZU 13 (↑k0 : Int)).bind fun v21 =>
   some (.ret (.ret v21))
  else
   some (.nxt (get ((get a0 k0).parents) k2))
def d5t (c15 : (List (Bs × Int))) (t2 : Int) : Option (Ctl (Yg) ((List (Bs × Int))) ((List (Bs × Int)))) :=
 some (.nxt c15)
def d5r (a0 : (List Yl)) (k0 : Nat) (s0 : (List (Bs × Int))) : Option (Ctl (Yg) ((List (Bs × Int))) ((List (Bs × Int)))) :=
 (termName ((get a0 k0).name)).bind fun v12 =>
 bif (!v12) then
  (ZU 10 (↑k0 : Int)).bind fun v13 =>
  some (.ret v13)
 else
  bif (assoc ((get a0 k0).name) s0).isSome then
   (ZU 7 (↑k0 : Int)).bind fun v14 =>
   some (.ret v14)
  else
   d6r (d0c ((get a0 k0).name) (↑k0 : Int) s0) fun c15 =>
   bif (!decide ((decide ((↑k0 : Int) = 0)) = (decide ((↑(((get a0 k0).parents).length) : Int) = 0)))) then
    (ZU 5 (↑k0 : Int)).bind fun v17 =>
    some (.ret v17)
   else
    YN (Zi (d5s a0 k0) (((get a0 k0).parents).length) (-1)) (d5t c15)
def d6W (t0 : (List (Bs × Int))) : Option (Yg) :=
 some (Yg.mk 0 0)
def d4H (a0 : (List Yl)) : Option (Yg) :=
 bif (bif (decide ((↑a0.length : Int) = 0)) then true else (decide (60 < (↑a0.length : Int)))) then
  (ZU 2 (-1)).bind fun v1 =>
  some v1
 else
  YN (Zi (d5r a0) a0.length []) (d6W)
def d4S (k0 : Nat) (a0 : (List Yl)) (k3 : Nat) (s3 : (List Int)) : Option (Ctl (Ctl (YB) ((List Int) × (List Int)) ((List Int) × (List Int))) ((List Int)) ((List Int))) :=
 chk ((↑k0 : Int) < (↑s3.length : Int)) <|
 chk (0 ≤ (get ((get a0 k0).parents) k3) ∧ (get ((get a0 k0).parents) k3) < (↑s3.length : Int)) <|
 d6r (s3.set k0 (d1G .or .u64 (get s3 k0) (get s3 ((get ((get a0 k0).parents) k3).toNat)))) fun c86 =>
 some (.nxt c86)
def d4U (k0 : Nat) (t3 : (List Int)) (k4 : Nat) (s4 : (List Int)) : Option (Ctl (Ctl (YB) ((List Int) × (List Int)) ((List Int) × (List Int))) ((List Int)) ((List Int))) :=
 chk ((↑k0 : Int) < (↑t3.length : Int)) <|
 chk (0 ≤ (↑k4 : Int)) <|
 bif (decide ((d1G .and .u64 (Int.fdiv (get t3 k0) (2 ^ (min k4 64))) 1) = 1)) then
  chk ((↑k4 : Int) < (↑s4.length : Int)) <|
  d6r (s4.set k4 (d1G .or .u64 (get s4 k4) (wr .u64 (1 * 2 ^ (min k0 64))))) fun c110 =>
  some (.nxt c110)
 else
  some (.nxt s4)
def d4V (t3 : (List Int)) (t4 : (List Int)) : Option (Ctl (YB) ((List Int) × (List Int)) ((List Int) × (List Int))) :=
 some (.nxt (t3, t4))
def d4T (k0 : Nat) (a0 : (List Yl)) (s0 : (List Int) × (List Int)) (t3 : (List Int)) : Option (Ctl (YB) ((List Int) × (List Int)) ((List Int) × (List Int))) :=
 YN (Zi (d4U k0 t3) a0.length s0.2) (d4V t3)
def d4R (a0 : (List Yl)) (k0 : Nat) (s0 : (List Int) × (List Int)) : Option (Ctl (YB) ((List Int) × (List Int)) ((List Int) × (List Int))) :=
 chk (0 ≤ (↑k0 : Int)) <|
 chk ((↑k0 : Int) < (↑s0.1.length : Int)) <|
 d6r (s0.1.set k0 (wr .u64 (1 * 2 ^ (min k0 64)))) fun c62 =>
 YN (Zi (d4S k0 a0) (((get a0 k0).parents).length) c62) (d4T k0 a0 s0)
def d4W (t0 : (List Int) × (List Int)) : Option (YB) :=
 some (YB.mk t0.1 t0.2)
def d4g (a0 : (List Yl)) : Option (YB) :=
 chk (a0.length * 8 ≤ top ∧ a0.length ≤ top) <|
 YN (Zi (d4R a0) a0.length ((List.replicate a0.length (default : Int)), (List.replicate a0.length (default : Int)))) (d4W)
def d1I (a0 : Int) : Option (Int) :=
 bif (decide (a0 = 0)) then
  some 64
 else
  chk (0 ≤ (Int.fdiv (wr .u64 ((d1G .and .u64 a0 (wr .u64 (0 - a0))) * 285870213051353865)) (2 ^ (min 58 64))) ∧ (Int.fdiv (wr .u64 ((d1G .and .u64 a0 (wr .u64 (0 - a0))) * 285870213051353865)) (2 ^ (min 58 64))) < 64) <|
  some (wr .i64 (get p3w ((Int.fdiv (wr .u64 ((d1G .and .u64 a0 (wr .u64 (0 - a0))) * 285870213051353865)) (2 ^ (min 58 64))).toNat)))
def d3F (a0 : YB) (a1 : Int) (a2 : Int) : Option (Int × Bool × Bool) :=
 chk (0 ≤ a1 ∧ a1 < (↑a0.down.length : Int)) <|
 chk (0 ≤ a2 ∧ a2 < (↑a0.down.length : Int)) <|
 bif (decide ((d1G .and .u64 (get a0.down a1.toNat) (get a0.down a2.toNat)) = 0)) then
  some (0, false, false)
 else
  (d1I (d1G .and .u64 (get a0.down a1.toNat) (get a0.down a2.toNat))).bind fun v5 =>
  chk (0 ≤ v5 ∧ v5 < (↑a0.down.length : Int)) <|
  bif (!decide ((get a0.down v5.toNat) = (d1G .and .u64 (get a0.down a1.toNat) (get a0.down a2.toNat)))) then
   some (0, false, true)
  else
   some (v5, true, false)
def d3X (v3 : YB) (k0 : Nat) (k1 : Nat) (s1 : Unit) : Option (Ctl (Ctl (Yg) (Unit) (Unit)) (Unit) (Unit)) :=
 (d3F v3 (↑k1 : Int) (↑k0 : Int)).bind fun v6 =>
 bif v6.2.2 then
  (ZU 16 (↑k0 : Int)).bind fun v7 =>
  some (.ret (.ret v7))
 else
  some (.nxt ())
def d3Y (t1 : Unit) : Option (Ctl (Yg) (Unit) (Unit)) :=
 some (.nxt ())
def d3W (v3 : YB) (k0 : Nat) (s0 : Unit) : Option (Ctl (Yg) (Unit) (Unit)) :=
 chk (k0 ≤ 9223372036854775807) <|
 YN (Zi (d3X v3 k0) k0 ()) (d3Y)
def d3V (a0 : Yo) (k2 : Nat) (s2 : (List (Bs × Int))) : Option (Ctl (Yg) ((List (Bs × Int))) ((List (Bs × Int)))) :=
 (termName ((get a0.YL k2).name)).bind fun v14 =>
 bif (!v14) then
  (ZU 10 (↑k2 : Int)).bind fun v15 =>
  some (.ret v15)
 else
  bif (assoc ((get a0.YL k2).name) s2).isSome then
   (ZU 7 (↑k2 : Int)).bind fun v16 =>
   some (.ret v16)
  else
   d6r (d0c ((get a0.YL k2).name) (↑k2 : Int) s2) fun c17 =>
   bif (bif (bif (bif (decide (((get a0.YL k2).of_) < 0)) then true else (decide ((↑a0.types.length : Int) ≤ ((get a0.YL k2).of_)))) then true else (decide (((get a0.YL k2).value) < 0))) then true else (decide ((↑a0.types.length : Int) ≤ ((get a0.YL k2).value)))) then
    (ZU 3 (↑k2 : Int)).bind fun v19 =>
    some (.ret v19)
   else
    some (.nxt c17)
def d5F (t2 : (List (Bs × Int))) : Option (Yg) :=
 some (Yg.mk 0 0)
def d2O (a0 : Yo) (t0 : Unit) : Option (Yg) :=
 YN (Zi (d3V a0) a0.YL.length []) (d5F)
def d4h (a0 : Yo) : Option (Yg) :=
 bif (bif (bif (decide ((↑a0.types.length : Int) = 0)) then true else (decide (60 < (↑a0.types.length : Int)))) then true else (decide (40 < (↑a0.YL.length : Int)))) then
  (ZU 2 (-1)).bind fun v1 =>
  some v1
 else
  (d4H a0.types).bind fun v2 =>
  bif (!decide (v2.code = 0)) then
   some v2
  else
   (d4g a0.types).bind fun v3 =>
   chk (a0.types.length ≤ 9223372036854775807) <|
   YN (Zi (d3W v3) a0.types.length ()) (d2O a0)
def d2Z (a0 : Int) (a1 : Int) : Option (Yg) :=
 some (Yg.mk a0 a1)
def d5q (a0 : Int) (a1 : Int) : Option (Yg) :=
 some (Yg.mk a0 a1)
def d7J (a1 : Yz) (k0 : Nat) (a0 : Yo) (k2 : Nat) (s2 : Int) : Option (Ctl (Ctl (Yg) (Unit) (Unit)) (Int) (Int)) :=
 bif (bif (bif (bif (decide (((get ((get a1.nodes k0).links) k2).d6N) < 0)) then true else (decide ((↑a0.YL.length : Int) ≤ ((get ((get a1.nodes k0).links) k2).d6N)))) then true else (decide (((get ((get a1.nodes k0).links) k2).to_) < 0))) then true else (decide ((↑a1.nodes.length : Int) ≤ ((get ((get a1.nodes k0).links) k2).to_)))) then
  (d5q 3 (↑k0 : Int)).bind fun v10 =>
  some (.ret (.ret v10))
 else
  bif (decide (((get ((get a1.nodes k0).links) k2).d6N) ≤ s2)) then
   (d5q 13 (↑k0 : Int)).bind fun v11 =>
   some (.ret (.ret v11))
  else
   some (.nxt ((get ((get a1.nodes k0).links) k2).d6N))
def d7K (t2 : Int) : Option (Ctl (Yg) (Unit) (Unit)) :=
 some (.nxt ())
def d7I (a1 : Yz) (a0 : Yo) (k0 : Nat) (s0 : Unit) : Option (Ctl (Yg) (Unit) (Unit)) :=
 bif (bif (decide (((get a1.nodes k0).type) < 0)) then true else (decide ((↑a0.types.length : Int) ≤ ((get a1.nodes k0).type)))) then
  (d5q 3 (↑k0 : Int)).bind fun v7 =>
  some (.ret v7)
 else
  YN (Zi (d7J a1 k0 a0) (((get a1.nodes k0).links).length) (-1)) (d7K)
def d9Q (t0 : Unit) : Option (Yg) :=
 some (Yg.mk 0 0)
def d9q (a0 : Yo) (a1 : Yz) : Option (Yg) :=
 bif (bif (decide ((↑a1.nodes.length : Int) = 0)) then true else (decide (60 < (↑a1.nodes.length : Int)))) then
  (d5q 2 (-2)).bind fun v1 =>
  some v1
 else
  YN (Zi (d7I a1 a0) a1.nodes.length ()) (d9Q)
def d3c (a0 : YB) (a1 : Int) (a2 : Int) : Option (Bool) :=
 chk (0 ≤ a1 ∧ a1 < (↑a0.up.length : Int)) <|
 chk (0 ≤ a2) <|
 some (decide ((d1G .and .u64 (Int.fdiv (get a0.up a1.toNat) (2 ^ (min a2.toNat 64))) 1) = 1))
def d3r (a1 : Bool) (a0 : (List Bool)) (k0 : Nat) (s0 : Unit) : Option (Ctl (Int) (Unit) (Unit)) :=
 bif (decide (a1 = (get a0 k0))) then
  some (.ret (↑k0 : Int))
 else
  some (.nxt ())
def d4N (t0 : Unit) : Option (Int) :=
 some (-1)
def ZX (a0 : (List Bool)) (a1 : Bool) : Option (Int) :=
 YN (Zi (d3r a1 a0) a0.length ()) (d4N)
def d5v (a0 : Yz) (s0 : (List Bool) × (List Int) × Nat) (k2 : Nat) (s2 : (List Bool) × (List Int) × Nat) : Option (Ctl (Ctl (Int) ((List Bool) × (List Int) × Nat) ((List Bool))) ((List Bool) × (List Int) × Nat) ((List Bool) × (List Int) × Nat)) :=
 chk (0 ≤ (get ((get a0.nodes ((get s0.2.1 ((wr .i64 ((↑s0.2.2 : Int) - 1)).toNat)).toNat)).links) k2).to_ ∧ (get ((get a0.nodes ((get s0.2.1 ((wr .i64 ((↑s0.2.2 : Int) - 1)).toNat)).toNat)).links) k2).to_ < (↑s2.1.length : Int)) <|
 bif (!(get s2.1 (((get ((get a0.nodes ((get s0.2.1 ((wr .i64 ((↑s0.2.2 : Int) - 1)).toNat)).toNat)).links) k2).to_).toNat))) then
  d6r (s2.1.set (((get ((get a0.nodes ((get s0.2.1 ((wr .i64 ((↑s0.2.2 : Int) - 1)).toNat)).toNat)).links) k2).to_).toNat) true) fun c79 =>
  chk (s2.2.2 ≤ s2.2.1.length) <|
  d6r ((s2.2.1.take s2.2.2) ++ [(get ((get a0.nodes ((get s0.2.1 ((wr .i64 ((↑s0.2.2 : Int) - 1)).toNat)).toNat)).links) k2).to_]) fun c84 =>
  chk (c84.length * 8 ≤ top ∧ c84.length ≤ top) <|
  some (.nxt (c79, c84, c84.length))
 else
  some (.nxt (s2.1, s2.2.1, s2.2.2))
def d5w (t2 : (List Bool) × (List Int) × Nat) : Option (Ctl (Int) ((List Bool) × (List Int) × Nat) ((List Bool))) :=
 some (.nxt (t2.1, t2.2.1, t2.2.2))
def d5u (a0 : Yz) (s0 : (List Bool) × (List Int) × Nat) : Option (Ctl (Int) ((List Bool) × (List Int) × Nat) ((List Bool))) :=
 bif (decide (0 < (↑s0.2.2 : Int))) then
  chk (s0.2.2 ≤ s0.2.1.length) <|
  chk (0 ≤ (wr .i64 ((↑s0.2.2 : Int) - 1)) ∧ (wr .i64 ((↑s0.2.2 : Int) - 1)) < (↑s0.2.2 : Int)) <|
  chk ((wr .i64 ((↑s0.2.2 : Int) - 1)).toNat ≤ s0.2.2) <|
  chk (0 ≤ (get s0.2.1 ((wr .i64 ((↑s0.2.2 : Int) - 1)).toNat)) ∧ (get s0.2.1 ((wr .i64 ((↑s0.2.2 : Int) - 1)).toNat)) < (↑a0.nodes.length : Int)) <|
  YN (Zi (d5v a0 s0) (((get a0.nodes ((get s0.2.1 ((wr .i64 ((↑s0.2.2 : Int) - 1)).toNat)).toNat)).links).length) (s0.1, s0.2.1, (wr .i64 ((↑s0.2.2 : Int) - 1)).toNat)) (d5w)
 else
  some (.brk s0.1)
def d5x (t0 : (List Bool)) : Option (Int) :=
 (ZX t0 false).bind fun v89 =>
 some v89
def d4I (n : Nat) (a0 : Yz) : Option (Int) :=
 chk (a0.nodes.length * 1 ≤ top ∧ a0.nodes.length ≤ top) <|
 chk (0 < (↑a0.nodes.length : Int)) <|
 d6r ((List.replicate a0.nodes.length (default : Bool)).set 0 true) fun c7 =>
 YN (d2e (d5u a0) n (c7, [0], 1)) (d5x)
def d7a (a2 : Yz) (k0 : Nat) (a0 : Yo) (a1 : YB) (k2 : Nat) (s2 : Unit) : Option (Ctl (Ctl (Yg) (Unit) (Unit)) (Unit) (Unit)) :=
 chk (0 ≤ (get ((get a2.nodes k0).links) k2).d6N ∧ (get ((get a2.nodes k0).links) k2).d6N < (↑a0.YL.length : Int)) <|
 (d3c a1 ((get a2.nodes k0).type) ((get a0.YL (((get ((get a2.nodes k0).links) k2).d6N).toNat)).of_)).bind fun v28 =>
 chk (d7C (!(!v28)) (0 ≤ (get ((get a2.nodes k0).links) k2).to_) ∧ d7C (!(!v28)) ((get ((get a2.nodes k0).links) k2).to_ < (↑a2.nodes.length : Int))) <|
 (gd (!(!v28)) (d3c a1 ((get a2.nodes (((get ((get a2.nodes k0).links) k2).to_).toNat)).type) ((get a0.YL (((get ((get a2.nodes k0).links) k2).d6N).toNat)).value)) default).bind fun v32 =>
 bif (bif (!v28) then true else (!v32)) then
  (d5q 12 (↑k0 : Int)).bind fun v33 =>
  some (.ret (.ret v33))
 else
  some (.nxt ())
def d7b (t2 : Unit) : Option (Ctl (Yg) (Unit) (Unit)) :=
 some (.nxt ())
def d6Z (a2 : Yz) (a0 : Yo) (a1 : YB) (k0 : Nat) (s0 : Unit) : Option (Ctl (Yg) (Unit) (Unit)) :=
 YN (Zi (d7a a2 k0 a0 a1) (((get a2.nodes k0).links).length) ()) (d7b)
def d7c (n : Nat) (a2 : Yz) (t0 : Unit) : Option (Yg) :=
 (d4I n a2).bind fun v34 =>
 bif (decide (0 ≤ v34)) then
  (d5q 5 v34).bind fun v35 =>
  some v35
 else
  some (Yg.mk 0 0)
def d6d (n : Nat) (a0 : Yo) (a1 : YB) (a2 : Yz) : Option (Yg) :=
 (d9q a0 a2).bind fun v1 =>
 bif (!decide (v1.code = 0)) then
  some v1
 else
  YN (Zi (d6Z a2 a0 a1) a2.nodes.length ()) (d7c n a2)
def d9R (a0 : Int) : Option (Bool) :=
 some false
def d6C (a0 : Int) (a1 : Int) : Option (Int) :=
 (d9R a0).bind fun v1 =>
 (d9R a1).bind fun v2 =>
 bif v1 then
  bif v2 then
   some 0
  else
   some (-1)
 else
  bif v2 then
   some 1
  else
   bif (decide (a0 < a1)) then
    some (-1)
   else
    bif (decide (a1 < a0)) then
     some 1
    else
     some 0
def d6p (a0 : Zh) (a1 : Int) : Option (Int) :=
 (d6C a0.d6N a1).bind fun v1 =>
 some v1
def Zu (a0 : (List Zh)) (a1 : Int) (s0 : Int × Int) : Option (Ctl (Int × Bool) (Int × Int) (Int)) :=
 bif (decide (s0.2 < s0.1)) then
  chk (0 ≤ (wr .i64 (Int.fdiv (wr .u64 (wr .i64 (s0.2 + s0.1))) (2 ^ (min 1 64)))) ∧ (wr .i64 (Int.fdiv (wr .u64 (wr .i64 (s0.2 + s0.1))) (2 ^ (min 1 64)))) < (↑a0.length : Int)) <|
  (d6p (get a0 ((wr .i64 (Int.fdiv (wr .u64 (wr .i64 (s0.2 + s0.1))) (2 ^ (min 1 64)))).toNat)) a1).bind fun v6 =>
  bif (decide (v6 < 0)) then
   some (.nxt (s0.1, (wr .i64 ((wr .i64 (Int.fdiv (wr .u64 (wr .i64 (s0.2 + s0.1))) (2 ^ (min 1 64)))) + 1))))
  else
   some (.nxt ((wr .i64 (Int.fdiv (wr .u64 (wr .i64 (s0.2 + s0.1))) (2 ^ (min 1 64)))), s0.2))
 else
  some (.brk s0.2)
def Zv (a0 : (List Zh)) (a1 : Int) (t0 : Int) : Option (Int × Bool) :=
 chk (d7C (decide (t0 < (↑a0.length : Int))) (0 ≤ t0) ∧ d7C (decide (t0 < (↑a0.length : Int))) (t0 < (↑a0.length : Int))) <|
 (gd (decide (t0 < (↑a0.length : Int))) (d6p (get a0 t0.toNat) a1) default).bind fun v10 =>
 some (t0, (bif (decide (t0 < (↑a0.length : Int))) then (decide (v10 = 0)) else false))
def Zm (n : Nat) (a0 : (List Zh)) (a1 : Int) : Option (Int × Bool) :=
 YN (d2e (Zu a0 a1) n ((↑a0.length : Int), 0)) (Zv a0 a1)
def d6e (n : Nat) (a0 : Yz) (a1 : Int) (a2 : Int) : Option (Int) :=
 chk (0 ≤ a1 ∧ a1 < (↑a0.nodes.length : Int)) <|
 (Zm n ((get a0.nodes a1.toNat).links) a2).bind fun v3 =>
 bif (!v3.2) then
  some (-1)
 else
  chk (0 ≤ v3.1 ∧ v3.1 < (↑(((get a0.nodes a1.toNat).links).length) : Int)) <|
  some ((get ((get a0.nodes a1.toNat).links) v3.1.toNat).to_)
def d2I (n : Nat) (a0 : Yz) (a1 : Int) (k0 : Nat) (s0 : Unit) : Option (Ctl (Bool) (Unit) (Unit)) :=
 (d6e n a0 0 (↑k0 : Int)).bind fun v1 =>
 bif (!decide ((decide (0 ≤ v1)) = (decide ((↑k0 : Int) ≤ a1)))) then
  some (.ret false)
 else
  some (.nxt ())
def d5X (t0 : Unit) : Option (Bool) :=
 some true
def d4r (n : Nat) (a0 : Yz) (a1 : Int) : Option (Bool) :=
 YN (Zi (d2I n a0 a1) 4 ()) (d5X)
def d0d (a0 : Int) (d0m : Int) : Option (Yg) :=
 some (Yg.mk a0 d0m)
def d4X (self : (Ye) → (Int) → (Int) → Option (Int × Int)) (a0 : Ye) (a1 : Int) (k0 : Nat) (s0 : Int) : Option (Ctl (Int × Int) (Int) (Int)) :=
 (self (get a0.args k0) (wr .i64 (a1 + 1)) s0).bind fun v2 =>
 bif (!decide (v2.1 = 0)) then
  some (.ret (v2.1, v2.2))
 else
  some (.nxt v2.2)
def d4Y (t0 : Int) : Option (Int × Int) :=
 some (0, t0)
def d3g : Nat → (Ye) → (Int) → (Int) → Option (Int × Int)
 | 0, _, _, _ => none
 | n + 1, a0, a1, d0m =>
  bif (bif (decide (200 < (wr .i64 (d0m + 1)))) then true else (decide (40 < a1))) then
   some (1, (wr .i64 (d0m + 1)))
  else
   bif (!(bif (bif (bif (decide (a0.base = [101])) then true else (decide (a0.base = [116]))) then (decide ((↑a0.args.length : Int) = 0)) else false) then true else (bif (decide (a0.base = [])) then (decide ((↑a0.args.length : Int) = 2)) else false))) then
    some (5, (wr .i64 (d0m + 1)))
   else
    YN (Zi (d4X (d3g n) a0 a1) a0.args.length (wr .i64 (d0m + 1))) (d4Y)
def d4J (n : Nat) (a0 : Ye) : Option (Yg) :=
 (d3g n a0 1 0).bind fun v1 =>
 some (Yg.mk v1.1 0)
def i0R (a0 : Ye) : Option (Bool) :=
 some (bif (decide (a0.base = [])) then (decide ((↑a0.args.length : Int) = 0)) else false)
def d3K : Nat → (Yh) → (Int) → (Int) → (Int) → Option (Yg × Int)
 | 0, _, _, _, _ => none
 | n + 1, a0, a1, a2, d0m =>
  bif (bif (decide (200 < (wr .i64 (d0m + 1)))) then true else (decide (40 < a1))) then
   (d0d 1 d0m).bind fun v1 =>
   some (v1, (wr .i64 (d0m + 1)))
  else
   bif (decide (a0.kind = 1)) then
    bif (bif (!decide (a0.index = 0)) then true else (!decide ((↑a0.args.length : Int) = 0))) then
     (d0d 5 d0m).bind fun v2 =>
     some (v2, (wr .i64 (d0m + 1)))
    else
     (termName a0.name).bind fun v3 =>
     bif (!v3) then
      (d0d 10 d0m).bind fun v4 =>
      some (v4, (wr .i64 (d0m + 1)))
     else
      (d4J n a0.type).bind fun v5 =>
      bif (!decide (v5.code = 0)) then
       (d0d 12 d0m).bind fun v6 =>
       some (v6, (wr .i64 (d0m + 1)))
      else
       some ((Yg.mk 0 0), (wr .i64 (d0m + 1)))
   else
    bif (decide (a0.kind = 2)) then
     (gd (!(!decide (a0.name = []))) (i0R a0.type) default).bind fun v7 =>
     bif (bif (bif (!decide (a0.name = [])) then true else (!v7)) then true else (!decide ((↑a0.args.length : Int) = 0))) then
      (d0d 5 d0m).bind fun v8 =>
      some (v8, (wr .i64 (d0m + 1)))
     else
      bif (bif (decide (a0.index < 0)) then true else (decide (a2 ≤ a0.index))) then
       (d0d 15 d0m).bind fun v9 =>
       some (v9, (wr .i64 (d0m + 1)))
      else
       some ((Yg.mk 0 0), (wr .i64 (d0m + 1)))
    else
     bif (decide (a0.kind = 3)) then
      bif (bif (bif (!decide (a0.name = [])) then true else (!decide (a0.index = 0))) then true else (!decide ((↑a0.args.length : Int) = 1))) then
       (d0d 5 d0m).bind fun v10 =>
       some (v10, (wr .i64 (d0m + 1)))
      else
       (d4J n a0.type).bind fun v11 =>
       bif (!decide (v11.code = 0)) then
        (d0d 12 d0m).bind fun v12 =>
        some (v12, (wr .i64 (d0m + 1)))
       else
        chk (0 < (↑a0.args.length : Int)) <|
        (d3K n (get a0.args 0) (wr .i64 (a1 + 1)) (wr .i64 (a2 + 1)) (wr .i64 (d0m + 1))).bind fun v14 =>
        some (v14.1, v14.2)
     else
      bif (decide (a0.kind = 4)) then
       (gd (!(bif (!decide (a0.name = [])) then true else (!decide (a0.index = 0)))) (i0R a0.type) default).bind fun v15 =>
       bif (bif (bif (bif (!decide (a0.name = [])) then true else (!decide (a0.index = 0))) then true else (!v15)) then true else (!decide ((↑a0.args.length : Int) = 2))) then
        (d0d 5 d0m).bind fun v16 =>
        some (v16, (wr .i64 (d0m + 1)))
       else
        chk (0 < (↑a0.args.length : Int)) <|
        (d3K n (get a0.args 0) (wr .i64 (a1 + 1)) a2 (wr .i64 (d0m + 1))).bind fun v18 =>
        bif (!decide (v18.1.code = 0)) then
         some (v18.1, v18.2)
        else
         chk (1 < (↑a0.args.length : Int)) <|
         (d3K n (get a0.args 1) (wr .i64 (a1 + 1)) a2 v18.2).bind fun v20 =>
         some (v20.1, v20.2)
      else
       (d0d 4 d0m).bind fun v21 =>
       some (v21, (wr .i64 (d0m + 1)))
def d7L (self : (Ye) → (Ye) → Option (Bool)) (a1 : Ye) (a0 : Ye) (k0 : Nat) (s0 : Unit) : Option (Ctl (Bool) (Unit) (Unit)) :=
 chk ((↑k0 : Int) < (↑a1.args.length : Int)) <|
 (self (get a0.args k0) (get a1.args k0)).bind fun v3 =>
 bif (!v3) then
  some (.ret false)
 else
  some (.nxt ())
def d7M (t0 : Unit) : Option (Bool) :=
 some true
def d4i : Nat → (Ye) → (Ye) → Option (Bool)
 | 0, _, _ => none
 | n + 1, a0, a1 =>
  bif (bif (!decide (a0.base = a1.base)) then true else (!decide ((↑a0.args.length : Int) = (↑a1.args.length : Int)))) then
   some false
  else
   chk (a0.args.length ≤ 9223372036854775807) <|
   YN (Zi (d7L (d4i n) a1 a0) a0.args.length ()) (d7M)
def d3i : Nat → (Yh) → ((List Ye)) → Option (Ye × Bool)
 | 0, _, _ => none
 | n + 1, a0, l0 =>
  bif (decide (a0.kind = 1)) then
   some (a0.type, true)
  else
   bif (decide (a0.kind = 2)) then
    chk (0 ≤ (wr .i64 ((wr .i64 ((↑l0.length : Int) - 1)) - a0.index)) ∧ (wr .i64 ((wr .i64 ((↑l0.length : Int) - 1)) - a0.index)) < (↑l0.length : Int)) <|
    some ((get l0 ((wr .i64 ((wr .i64 ((↑l0.length : Int) - 1)) - a0.index)).toNat)), true)
   else
    bif (decide (a0.kind = 3)) then
     chk (0 ≤ (↑l0.length : Int) ∧ 0 ≤ (↑l0.length : Int)) <|
     d6r (l0 ++ [a0.type]) fun c8 =>
     chk (c8.length * 40 ≤ top ∧ c8.length ≤ top) <|
     chk (0 < (↑a0.args.length : Int)) <|
     (d3i n (get a0.args 0) c8).bind fun v14 =>
     some ((Ye.mk [] [a0.type, v14.1]), v14.2)
    else
     chk (0 < (↑a0.args.length : Int)) <|
     (d3i n (get a0.args 0) l0).bind fun v17 =>
     chk (1 < (↑a0.args.length : Int)) <|
     (d3i n (get a0.args 1) l0).bind fun v19 =>
     chk (d7C (!(bif (bif (!v17.2) then true else (!v19.2)) then true else (!decide ((↑v17.1.args.length : Int) = 2)))) (0 < (↑v17.1.args.length : Int))) <|
     (gd (!(bif (bif (!v17.2) then true else (!v19.2)) then true else (!decide ((↑v17.1.args.length : Int) = 2)))) (d4i n (get v17.1.args 0) v19.1) default).bind fun v22 =>
     bif (bif (bif (bif (!v17.2) then true else (!v19.2)) then true else (!decide ((↑v17.1.args.length : Int) = 2))) then true else (!v22)) then
      some ((Ye.mk [] []), false)
     else
      chk (1 < (↑v17.1.args.length : Int)) <|
      some ((get v17.1.args 1), true)
def d5O : Nat → (Yh) → ((List Ye)) → Option (Ye × Bool)
 | 0, _, _ => none
 | n + 1, a0, a1 =>
  bif (decide (a0.kind = 1)) then
   some (a0.type, true)
  else
   bif (decide (a0.kind = 2)) then
    chk (0 ≤ (wr .i64 ((wr .i64 ((↑a1.length : Int) - 1)) - a0.index)) ∧ (wr .i64 ((wr .i64 ((↑a1.length : Int) - 1)) - a0.index)) < (↑a1.length : Int)) <|
    some ((get a1 ((wr .i64 ((wr .i64 ((↑a1.length : Int) - 1)) - a0.index)).toNat)), true)
   else
    bif (decide (a0.kind = 3)) then
     chk (0 ≤ (↑a1.length : Int) ∧ 0 ≤ (↑a1.length : Int)) <|
     d6r (a1 ++ [a0.type]) fun c6 =>
     chk (c6.length * 40 ≤ top ∧ c6.length ≤ top) <|
     chk (0 < (↑a0.args.length : Int)) <|
     (d3i n (get a0.args 0) c6).bind fun v12 =>
     some ((Ye.mk [] [a0.type, v12.1]), v12.2)
    else
     chk (0 < (↑a0.args.length : Int)) <|
     (d5O n (get a0.args 0) a1).bind fun v15 =>
     chk (1 < (↑a0.args.length : Int)) <|
     (d5O n (get a0.args 1) a1).bind fun v17 =>
     chk (d7C (!(bif (bif (!v15.2) then true else (!v17.2)) then true else (!decide ((↑v15.1.args.length : Int) = 2)))) (0 < (↑v15.1.args.length : Int))) <|
     (gd (!(bif (bif (!v15.2) then true else (!v17.2)) then true else (!decide ((↑v15.1.args.length : Int) = 2)))) (d4i n (get v15.1.args 0) v17.1) default).bind fun v20 =>
     bif (bif (bif (bif (!v15.2) then true else (!v17.2)) then true else (!decide ((↑v15.1.args.length : Int) = 2))) then true else (!v20)) then
      some ((Ye.mk [] []), false)
     else
      chk (1 < (↑v15.1.args.length : Int)) <|
      some ((get v15.1.args 1), true)
def d5j (n : Nat) (a0 : Yh) : Option (Yg) :=
 (d3K n a0 1 0 0).bind fun v1 =>
 bif (!decide (v1.1.code = 0)) then
  some v1.1
 else
  (d5O n a0 []).bind fun v2 =>
  bif (!v2.2) then
   some (Yg.mk 12 (-1))
  else
   some (Yg.mk 0 0)
def d8k (n : Nat) (a0 : Yo) (a1 : YB) (a2 : Yi) : Option (Int) :=
 bif (bif (bif (bif (decide (a2.kids < 1)) then true else (decide (3 < a2.kids))) then true else (decide (a2.weight < 0))) then true else (decide (1000000 < a2.weight))) then
  some 3
 else
  (d6d n a0 a1 a2.graph).bind fun v1 =>
  bif (!decide (v1.code = 0)) then
   some v1.code
  else
   (d4r n a2.graph a2.kids).bind fun v2 =>
   bif (!v2) then
    some 5
   else
    (d5j n a2.meaning).bind fun v3 =>
    some v3.code
def d0F (a0 : Bs) (s0 : Nat × Int) : Option (Ctl (Int) (Nat × Int) (Int)) :=
 bif (decide (s0.1 < a0.length)) then
  some (.nxt ((s0.1 + d7j a0 s0.1), (wr .i64 (s0.2 + 1))))
 else
  some (.brk s0.2)
def d2m (t0 : Int) : Option (Int) :=
 some t0
def d0w (n : Nat) (a0 : Bs) : Option (Int) :=
 YN (d2e (d0F a0) n (0, 0)) (d2m)
def Zn (a0 : Bs) : Option (Int) :=
 bif false then
  chk (0 < (↑a0.length : Int)) <|
  chk (1 < (↑a0.length : Int)) <|
  chk (2 < (↑a0.length : Int)) <|
  chk (3 < (↑a0.length : Int)) <|
  some (d1G .or .u64 (d1G .or .u64 (d1G .or .u64 (wr .u64 (Yx a0 0)) (wr .u64 ((wr .u64 (Yx a0 1)) * 2 ^ (min 8 64)))) (wr .u64 ((wr .u64 (Yx a0 2)) * 2 ^ (min 16 64)))) (wr .u64 ((wr .u64 (Yx a0 3)) * 2 ^ (min 24 64))))
 else
  chk (0 < (↑a0.length : Int)) <|
  chk (1 < (↑a0.length : Int)) <|
  chk (2 < (↑a0.length : Int)) <|
  chk (3 < (↑a0.length : Int)) <|
  chk (4 < (↑a0.length : Int)) <|
  chk (5 < (↑a0.length : Int)) <|
  chk (6 < (↑a0.length : Int)) <|
  chk (7 < (↑a0.length : Int)) <|
  some (d1G .or .u64 (d1G .or .u64 (d1G .or .u64 (d1G .or .u64 (d1G .or .u64 (d1G .or .u64 (d1G .or .u64 (wr .u64 (Yx a0 0)) (wr .u64 ((wr .u64 (Yx a0 1)) * 2 ^ (min 8 64)))) (wr .u64 ((wr .u64 (Yx a0 2)) * 2 ^ (min 16 64)))) (wr .u64 ((wr .u64 (Yx a0 3)) * 2 ^ (min 24 64)))) (wr .u64 ((wr .u64 (Yx a0 4)) * 2 ^ (min 32 64)))) (wr .u64 ((wr .u64 (Yx a0 5)) * 2 ^ (min 40 64)))) (wr .u64 ((wr .u64 (Yx a0 6)) * 2 ^ (min 48 64)))) (wr .u64 ((wr .u64 (Yx a0 7)) * 2 ^ (min 56 64))))
def d0e (j3 : Bs) : Option (Ctl (Bool) (Bs) (Unit)) :=
 some (.nxt j3)
def d0Y (s4 : Bs) : Option (Ctl (Ctl (Bool) (Bs) (Unit)) (Bs) (Bs)) :=
 (gd (decide (32 < (↑s4.length : Int))) (Zn s4) default).bind fun v100 =>
 chk (d7C (decide (32 < (↑s4.length : Int))) (8 ≤ s4.length)) <|
 (gd (decide (32 < (↑s4.length : Int))) (Zn (s4.drop 8)) default).bind fun v103 =>
 chk (d7C (decide (32 < (↑s4.length : Int))) (16 ≤ s4.length)) <|
 (gd (decide (32 < (↑s4.length : Int))) (Zn (s4.drop 16)) default).bind fun v106 =>
 chk (d7C (decide (32 < (↑s4.length : Int))) (0 ≤ 24) ∧ d7C (decide (32 < (↑s4.length : Int))) (24 ≤ s4.length)) <|
 (gd (decide (32 < (↑s4.length : Int))) (Zn (s4.drop 24)) default).bind fun v110 =>
 bif (bif (decide (32 < (↑s4.length : Int))) then (decide ((d1G .and .u64 (d1G .or .u64 (d1G .or .u64 v100 v103) (d1G .or .u64 v106 v110)) 9259542123273814144) = 0)) else false) then
  chk (0 ≤ 32 ∧ 32 ≤ s4.length) <|
  some (.nxt (s4.drop 32))
 else
  some (.brk s4)
def d2o (t4 : Bs) : Option (Ctl (Bool) (Bs) (Unit)) :=
 d0e t4
def d0Z (n : Nat) (s0 : Bs) : Option (Ctl (Bool) (Bs) (Unit)) :=
 bif (decide (0 < (↑s0.length : Int))) then
  chk (0 < (↑s0.length : Int)) <|
  bif (decide ((Yx s0 0) < 128)) then
   chk (0 ≤ 1 ∧ 1 ≤ s0.length) <|
   (gd (decide (8 < (↑((s0.drop 1).length) : Int))) (Zn (s0.drop 1)) default).bind fun v78 =>
   bif (bif (decide (8 < (↑((s0.drop 1).length) : Int))) then (decide ((d1G .and .u64 v78 9259542123273814144) = 0)) else false) then
    chk (0 ≤ 8 ∧ 8 ≤ (s0.drop 1).length) <|
    (gd (decide (16 < (↑(((s0.drop 1).drop 8).length) : Int))) (Zn ((s0.drop 1).drop 8)) default).bind fun v81 =>
    chk (d7C (decide (16 < (↑(((s0.drop 1).drop 8).length) : Int))) (8 ≤ ((s0.drop 1).drop 8).length)) <|
    (gd (decide (16 < (↑(((s0.drop 1).drop 8).length) : Int))) (Zn (((s0.drop 1).drop 8).drop 8)) default).bind fun v84 =>
    bif (bif (decide (16 < (↑(((s0.drop 1).drop 8).length) : Int))) then (decide ((d1G .and .u64 (d1G .or .u64 v81 v84) 9259542123273814144) = 0)) else false) then
     chk (0 ≤ 16 ∧ 16 ≤ ((s0.drop 1).drop 8).length) <|
     YN (d2e (d0Y) n (((s0.drop 1).drop 8).drop 16)) (d2o)
    else
     d0e ((s0.drop 1).drop 8)
   else
    d0e (s0.drop 1)
  else
   chk (0 ≤ (Yx s0 0) ∧ (Yx s0 0) < 256) <|
   chk (0 ≤ (Int.fdiv (get d9n ((Yx s0 0).toNat)) (2 ^ (min 4 8))) ∧ (Int.fdiv (get d9n ((Yx s0 0).toNat)) (2 ^ (min 4 8))) < 16) <|
   bif (decide ((wr .i64 (d1G .and .u8 (get d9n ((Yx s0 0).toNat)) 7)) = 2)) then
    chk (d7C (!(decide ((↑s0.length : Int) < 2))) (1 < (↑s0.length : Int))) <|
    chk (d7C (!(bif (decide ((↑s0.length : Int) < 2)) then true else (decide ((Yx s0 1) < ((get i1A ((Int.fdiv (get d9n ((Yx s0 0).toNat)) (2 ^ (min 4 8))).toNat)).lo))))) (1 < (↑s0.length : Int))) <|
    bif (bif (bif (decide ((↑s0.length : Int) < 2)) then true else (decide ((Yx s0 1) < ((get i1A ((Int.fdiv (get d9n ((Yx s0 0).toNat)) (2 ^ (min 4 8))).toNat)).lo)))) then true else (decide (((get i1A ((Int.fdiv (get d9n ((Yx s0 0).toNat)) (2 ^ (min 4 8))).toNat)).hi) < (Yx s0 1)))) then
     some (.ret false)
    else
     chk (0 ≤ 2 ∧ 2 ≤ s0.length) <|
     some (.nxt (s0.drop 2))
   else
    bif (decide ((wr .i64 (d1G .and .u8 (get d9n ((Yx s0 0).toNat)) 7)) = 3)) then
     chk (d7C (!(decide ((↑s0.length : Int) < 3))) (1 < (↑s0.length : Int))) <|
     chk (d7C (!(bif (decide ((↑s0.length : Int) < 3)) then true else (decide ((Yx s0 1) < ((get i1A ((Int.fdiv (get d9n ((Yx s0 0).toNat)) (2 ^ (min 4 8))).toNat)).lo))))) (1 < (↑s0.length : Int))) <|
     chk (d7C (!(bif (bif (decide ((↑s0.length : Int) < 3)) then true else (decide ((Yx s0 1) < ((get i1A ((Int.fdiv (get d9n ((Yx s0 0).toNat)) (2 ^ (min 4 8))).toNat)).lo)))) then true else (decide (((get i1A ((Int.fdiv (get d9n ((Yx s0 0).toNat)) (2 ^ (min 4 8))).toNat)).hi) < (Yx s0 1))))) (2 < (↑s0.length : Int))) <|
     chk (d7C (!(bif (bif (bif (decide ((↑s0.length : Int) < 3)) then true else (decide ((Yx s0 1) < ((get i1A ((Int.fdiv (get d9n ((Yx s0 0).toNat)) (2 ^ (min 4 8))).toNat)).lo)))) then true else (decide (((get i1A ((Int.fdiv (get d9n ((Yx s0 0).toNat)) (2 ^ (min 4 8))).toNat)).hi) < (Yx s0 1)))) then true else (decide ((Yx s0 2) < 128)))) (2 < (↑s0.length : Int))) <|
     bif (bif (bif (bif (bif (decide ((↑s0.length : Int) < 3)) then true else (decide ((Yx s0 1) < ((get i1A ((Int.fdiv (get d9n ((Yx s0 0).toNat)) (2 ^ (min 4 8))).toNat)).lo)))) then true else (decide (((get i1A ((Int.fdiv (get d9n ((Yx s0 0).toNat)) (2 ^ (min 4 8))).toNat)).hi) < (Yx s0 1)))) then true else (decide ((Yx s0 2) < 128))) then true else (decide (191 < (Yx s0 2)))) then
      some (.ret false)
     else
      chk (0 ≤ 3 ∧ 3 ≤ s0.length) <|
      some (.nxt (s0.drop 3))
    else
     bif (decide ((wr .i64 (d1G .and .u8 (get d9n ((Yx s0 0).toNat)) 7)) = 4)) then
      chk (d7C (!(decide ((↑s0.length : Int) < 4))) (1 < (↑s0.length : Int))) <|
      chk (d7C (!(bif (decide ((↑s0.length : Int) < 4)) then true else (decide ((Yx s0 1) < ((get i1A ((Int.fdiv (get d9n ((Yx s0 0).toNat)) (2 ^ (min 4 8))).toNat)).lo))))) (1 < (↑s0.length : Int))) <|
      chk (d7C (!(bif (bif (decide ((↑s0.length : Int) < 4)) then true else (decide ((Yx s0 1) < ((get i1A ((Int.fdiv (get d9n ((Yx s0 0).toNat)) (2 ^ (min 4 8))).toNat)).lo)))) then true else (decide (((get i1A ((Int.fdiv (get d9n ((Yx s0 0).toNat)) (2 ^ (min 4 8))).toNat)).hi) < (Yx s0 1))))) (2 < (↑s0.length : Int))) <|
      chk (d7C (!(bif (bif (bif (decide ((↑s0.length : Int) < 4)) then true else (decide ((Yx s0 1) < ((get i1A ((Int.fdiv (get d9n ((Yx s0 0).toNat)) (2 ^ (min 4 8))).toNat)).lo)))) then true else (decide (((get i1A ((Int.fdiv (get d9n ((Yx s0 0).toNat)) (2 ^ (min 4 8))).toNat)).hi) < (Yx s0 1)))) then true else (decide ((Yx s0 2) < 128)))) (2 < (↑s0.length : Int))) <|
      chk (d7C (!(bif (bif (bif (bif (decide ((↑s0.length : Int) < 4)) then true else (decide ((Yx s0 1) < ((get i1A ((Int.fdiv (get d9n ((Yx s0 0).toNat)) (2 ^ (min 4 8))).toNat)).lo)))) then true else (decide (((get i1A ((Int.fdiv (get d9n ((Yx s0 0).toNat)) (2 ^ (min 4 8))).toNat)).hi) < (Yx s0 1)))) then true else (decide ((Yx s0 2) < 128))) then true else (decide (191 < (Yx s0 2))))) (3 < (↑s0.length : Int))) <|
      chk (d7C (!(bif (bif (bif (bif (bif (decide ((↑s0.length : Int) < 4)) then true else (decide ((Yx s0 1) < ((get i1A ((Int.fdiv (get d9n ((Yx s0 0).toNat)) (2 ^ (min 4 8))).toNat)).lo)))) then true else (decide (((get i1A ((Int.fdiv (get d9n ((Yx s0 0).toNat)) (2 ^ (min 4 8))).toNat)).hi) < (Yx s0 1)))) then true else (decide ((Yx s0 2) < 128))) then true else (decide (191 < (Yx s0 2)))) then true else (decide ((Yx s0 3) < 128)))) (3 < (↑s0.length : Int))) <|
      bif (bif (bif (bif (bif (bif (bif (decide ((↑s0.length : Int) < 4)) then true else (decide ((Yx s0 1) < ((get i1A ((Int.fdiv (get d9n ((Yx s0 0).toNat)) (2 ^ (min 4 8))).toNat)).lo)))) then true else (decide (((get i1A ((Int.fdiv (get d9n ((Yx s0 0).toNat)) (2 ^ (min 4 8))).toNat)).hi) < (Yx s0 1)))) then true else (decide ((Yx s0 2) < 128))) then true else (decide (191 < (Yx s0 2)))) then true else (decide ((Yx s0 3) < 128))) then true else (decide (191 < (Yx s0 3)))) then
       some (.ret false)
      else
       chk (0 ≤ 4 ∧ 4 ≤ s0.length) <|
       some (.nxt (s0.drop 4))
     else
      some (.ret false)
 else
  some (.brk ())
def d3P (t0 : Unit) : Option (Bool) :=
 some true
def d2f (n : Nat) (a0 : Bs) : Option (Bool) :=
 YN (d2e (d0Z n) n a0) (d3P)
def d4E (a0 : Bs) (a1 : Int) : Option (Int) :=
 (indexByte a0 a1).bind fun v1 =>
 some v1
def d3Z (a0 : Int) : Option (Bool) :=
 bif (bif (decide (0 ≤ a0)) then (decide (a0 < 55296)) else false) then
  some true
 else
  bif (bif (decide (57343 < a0)) then (decide (a0 ≤ 1114111)) else false) then
   some true
  else
   some false
def d4u (a0 : Bs) (s0 : Nat) : Option (Ctl (Int) (Nat) (Unit)) :=
 bif (decide (s0 < a0.length)) then
  chk (s0 < a0.length) <|
  bif (decide ((rune a0 s0) = 65533)) then
   some (.ret (↑s0 : Int))
  else
   some (.nxt (s0 + d7j a0 s0))
 else
  some (.brk ())
def d6h (t0 : Unit) : Option (Int) :=
 some (-1)
def d6i (a1 : Int) (j2 : Int) (a0 : Bs) (s3 : Int) : Option (Ctl (Ctl (Int) (Unit) (Unit)) (Int) (Unit)) :=
 bif (decide (s3 < (↑((ZW a1).length) : Int))) then
  chk (0 ≤ (wr .i64 (j2 - s3)) ∧ (wr .i64 (j2 - s3)) < (↑a0.length : Int)) <|
  chk (0 ≤ (wr .i64 ((wr .i64 ((↑((ZW a1).length) : Int) - 1)) - s3)) ∧ (wr .i64 ((wr .i64 ((↑((ZW a1).length) : Int) - 1)) - s3)) < (↑((ZW a1).length) : Int)) <|
  bif (!decide ((Yx a0 (wr .i64 (j2 - s3))) = (Yx (ZW a1) (wr .i64 ((wr .i64 ((↑((ZW a1).length) : Int) - 1)) - s3))))) then
   none
  else
   some (.nxt (wr .i64 (s3 + 1)))
 else
  some (.brk ())
def d6j (j2 : Int) (a1 : Int) (t3 : Unit) : Option (Ctl (Int) (Unit) (Unit)) :=
 some (.ret (wr .i64 (j2 - (wr .i64 ((↑((ZW a1).length) : Int) - 1)))))
def d4x (n : Nat) (a1 : Int) (a0 : Bs) (j2 : Int) : Option (Ctl (Int) (Unit) (Unit)) :=
 YN (d2e (d6i a1 j2 a0) n 1) (d6j j2 a1)
def d3j (n : Nat) (a1 : Int) (a0 : Bs) (s1 : Unit) : Option (Ctl (Int) (Unit) (Unit)) :=
 bif (decide ((wr .i64 ((↑((ZW a1).length) : Int) - 1)) < (↑a0.length : Int))) then
  chk (0 ≤ (wr .i64 ((↑((ZW a1).length) : Int) - 1)) ∧ (wr .i64 ((↑((ZW a1).length) : Int) - 1)) < (↑a0.length : Int)) <|
  chk ((wr .i64 ((↑((ZW a1).length) : Int) - 1)) < (↑((ZW a1).length) : Int)) <|
  bif (!decide ((Yx a0 (wr .i64 ((↑((ZW a1).length) : Int) - 1))) = (Yx (ZW a1) (wr .i64 ((↑((ZW a1).length) : Int) - 1))))) then
   chk (0 ≤ (wr .i64 ((wr .i64 ((↑((ZW a1).length) : Int) - 1)) + 1)) ∧ (wr .i64 ((wr .i64 ((↑((ZW a1).length) : Int) - 1)) + 1)).toNat ≤ a0.length) <|
   (d4E (a0.drop ((wr .i64 ((wr .i64 ((↑((ZW a1).length) : Int) - 1)) + 1)).toNat)) (Yx (ZW a1) (wr .i64 ((↑((ZW a1).length) : Int) - 1)))).bind fun v10 =>
   bif (decide (v10 < 0)) then
    some (.ret (-1))
   else
    d4x n a1 a0 (wr .i64 ((wr .i64 ((↑((ZW a1).length) : Int) - 1)) + (wr .i64 (v10 + 1))))
  else
   d4x n a1 a0 (wr .i64 ((↑((ZW a1).length) : Int) - 1))
 else
  some (.brk ())
def d6k (t1 : Unit) : Option (Int) :=
 some (-1)
def d3D (n : Nat) (a0 : Bs) (a1 : Int) : Option (Int) :=
 bif (bif (decide (0 ≤ a1)) then (decide (a1 < 128)) else false) then
  (d4E a0 (wr .u8 a1)).bind fun v1 =>
  some v1
 else
  bif (decide (a1 = 65533)) then
   YN (d2e (d4u a0) n 0) (d6h)
  else
   (d3Z a1).bind fun v4 =>
   bif (!v4) then
    some (-1)
   else
    YN (d2e (d3j n a1 a0) n ()) (d6k)
def d4m (a0 : Int) : Option (Bool) :=
 some (decide (8 < a0))
def d4y (n : Nat) (a0 : Bs) (j0 : Int) : Option (Int) :=
 (d3D n a0 j0).bind fun v2 =>
 some v2
def d4w (n : Nat) (a0 : Bs) (a1 : Bs) (s2 : Nat) : Option (Ctl (Int) (Nat) (Unit)) :=
 bif (decide (s2 < a0.length)) then
  chk (s2 < a0.length) <|
  (d3D n a1 (rune a0 s2)).bind fun v7 =>
  bif (decide (0 ≤ v7)) then
   some (.ret (↑s2 : Int))
  else
   some (.nxt (s2 + d7j a0 s2))
 else
  some (.brk ())
def d6l (t2 : Unit) : Option (Int) :=
 some (-1)
def d4v (n : Nat) (a0 : Bs) (a1 : Bs) (j1 : Unit) : Option (Int) :=
 YN (d2e (d4w n a0 a1) n 0) (d6l)
def d5Y (n : Nat) (a0 : Bs) (a1 : Bs) : Option (Int) :=
 bif (decide (a1 = [])) then
  some (-1)
 else
  bif (decide ((↑a1.length : Int) = 1)) then
   chk (0 < (↑a1.length : Int)) <|
   bif (decide (128 ≤ (wr .i32 (Yx a1 0)))) then
    d4y n a0 65533
   else
    d4y n a0 (wr .i32 (Yx a1 0))
  else
   (d4m (↑a0.length : Int)).bind fun v3 =>
   bif v3 then
    none
   else
    d4v n a0 a1 ()
def d6E (n : Nat) (a0 : Bs) (a1 : Bs) : Option (Int) :=
 bif decide (8 < a0.length) then chk (2 ≤ a1.length ∧ a0.length < 4294967281 ∧ a1.length < 4294967281 ∧ a1.all (fun b => decide (b.toNat < 128)) = true) (some (Lib.indexAny a0 a1))
 else d5Y n a0 a1
def d2G (n : Nat) (a0 : Bs) (a1 : Bs) : Option (Bool) :=
 (d6E n a0 a1).bind fun v1 =>
 some (decide (0 ≤ v1))
def d8j (n : Nat) (a0 : Bs) : Option (Bool) :=
 (d0w n a0).bind fun v1 =>
 (gd (bif (decide (1 ≤ v1)) then (decide (v1 ≤ 30)) else false) (d2f n a0) default).bind fun v2 =>
 (gd (bif (bif (decide (1 ≤ v1)) then (decide (v1 ≤ 30)) else false) then v2 else false) (d2G n a0 [32, 9, 10, 40, 41, 91, 93, 44, 59]) default).bind fun v3 =>
 some (bif (bif (bif (decide (1 ≤ v1)) then (decide (v1 ≤ 30)) else false) then v2 else false) then (!v3) else false)
def d7o (n : Nat) (a0 : Yo) (a1 : YB) (a2 : YT) : Option (Int) :=
 (d8j n a2.word).bind fun v1 =>
 bif (!v1) then
  some 10
 else
  bif (bif (decide (a2.weight < 0)) then true else (decide (1000000 < a2.weight))) then
   some 3
  else
   (d6d n a0 a1 a2.graph).bind fun v2 =>
   bif (!decide (v2.code = 0)) then
    some v2.code
   else
    (d5j n a2.meaning).bind fun v3 =>
    some v3.code
def d4Z (n : Nat) (a0 : Yn) (v4 : YB) (k0 : Nat) (s0 : (List (Bs × Int))) : Option (Ctl (Yg) ((List (Bs × Int))) ((List (Bs × Int)))) :=
 (termName ((get a0.rules k0).name)).bind fun v12 =>
 bif (!v12) then
  (d2Z 10 (↑k0 : Int)).bind fun v13 =>
  some (.ret v13)
 else
  bif (assoc ((get a0.rules k0).name) s0).isSome then
   (d2Z 7 (↑k0 : Int)).bind fun v14 =>
   some (.ret v14)
  else
   d6r (d0c ((get a0.rules k0).name) (↑k0 : Int) s0) fun c15 =>
   (d8k n a0.hierarchy v4 (get a0.rules k0)).bind fun v17 =>
   bif (!decide (v17 = 0)) then
    (d2Z v17 (↑k0 : Int)).bind fun v18 =>
    some (.ret v18)
   else
    some (.nxt c15)
def d5b (n : Nat) (a0 : Yn) (v4 : YB) (k1 : Nat) (s1 : Unit) : Option (Ctl (Yg) (Unit) (Unit)) :=
 (d7o n a0.hierarchy v4 (get a0.Yy k1)).bind fun v19 =>
 bif (!decide (v19 = 0)) then
  (d2Z v19 (↑k1 : Int)).bind fun v20 =>
  some (.ret v20)
 else
  some (.nxt ())
def d5c (n : Nat) (a0 : Yn) (v4 : YB) (t1 : Unit) : Option (Yg) :=
 (d6d n a0.hierarchy v4 a0.start).bind fun v21 =>
 bif (!decide (v21.code = 0)) then
  (d2Z v21.code (-1)).bind fun v22 =>
  some v22
 else
  some (Yg.mk 0 0)
def d5a (n : Nat) (a0 : Yn) (v4 : YB) (t0 : (List (Bs × Int))) : Option (Yg) :=
 YN (Zi (d5b n a0 v4) a0.Yy.length ()) (d5c n a0 v4)
def d4j (n : Nat) (a0 : Yn) : Option (Yg) :=
 (d4h a0.hierarchy).bind fun v1 =>
 bif (!decide (v1.code = 0)) then
  some v1
 else
  bif (decide ((↑a0.hierarchy.YL.length : Int) ≤ 3)) then
   (d2Z 9 (-1)).bind fun v2 =>
   some v2
  else
   bif (bif (decide (40 < (↑a0.rules.length : Int))) then true else (decide (100 < (↑a0.Yy.length : Int)))) then
    (d2Z 2 (-1)).bind fun v3 =>
    some v3
   else
    (d4g a0.hierarchy.types).bind fun v4 =>
    YN (Zi (d4Z n a0 v4) a0.rules.length []) (d5a n a0 v4)
def d3p (a0 : Bs) (k0 : Nat) (s0 : Unit) : Option (Ctl (Bool) (Unit) (Unit)) :=
 bif (bif (!(bif (decide (97 ≤ (get (bytesOf a0) k0))) then (decide ((get (bytesOf a0) k0) ≤ 122)) else false)) then (bif (!(bif (bif (bif (decide (48 ≤ (get (bytesOf a0) k0))) then (decide ((get (bytesOf a0) k0) ≤ 57)) else false) then true else (decide ((get (bytesOf a0) k0) = 95))) then true else (decide ((get (bytesOf a0) k0) = 45)))) then true else (decide ((↑k0 : Int) = 0))) else false) then
  some (.ret false)
 else
  some (.nxt ())
def d3q (t0 : Unit) : Option (Bool) :=
 some true
def d1r (a0 : Bs) : Option (Bool) :=
 bif (bif (decide ((↑a0.length : Int) < 1)) then true else (decide (30 < (↑a0.length : Int)))) then
  some false
 else
  chk (a0.length ≤ top) <|
  YN (Zi (d3p a0) ((bytesOf a0).length) ()) (d3q)
def d0v (a0 : (List Yl)) (k0 : Nat) (k3 : Nat) (s3 : Unit) : Option (Ctl (Ctl (Yg) (Unit) (Unit)) (Unit) (Unit)) :=
 bif (decide (((get (a0.take k0) k3).name) = ((get a0 k0).name))) then
  some (.ret (.ret (Yg.mk 7 (↑k0 : Int))))
 else
  some (.nxt ())
def d1z (a0 : (List Yl)) (k0 : Nat) (k4 : Nat) (s4 : Unit) : Option (Ctl (Ctl (Yg) (Unit) (Unit)) (Unit) (Unit)) :=
 bif (bif (decide ((get ((get a0 k0).parents) k4) < 0)) then true else (decide ((↑k0 : Int) ≤ (get ((get a0 k0).parents) k4)))) then
  some (.ret (.ret (Yg.mk 3 (↑k0 : Int))))
 else
  chk (d7C (decide (0 < (↑k4 : Int))) (0 ≤ (wr .i64 ((↑k4 : Int) - 1))) ∧ d7C (decide (0 < (↑k4 : Int))) ((wr .i64 ((↑k4 : Int) - 1)) < (↑(((get a0 k0).parents).length) : Int))) <|
  bif (bif (decide (0 < (↑k4 : Int))) then (decide ((get ((get a0 k0).parents) k4) ≤ (get ((get a0 k0).parents) ((wr .i64 ((↑k4 : Int) - 1)).toNat)))) else false) then
   some (.ret (.ret (Yg.mk 13 (↑k0 : Int))))
  else
   some (.nxt ())
def d1A (t4 : Unit) : Option (Ctl (Yg) (Unit) (Unit)) :=
 some (.nxt ())
def d1y (k0 : Nat) (a0 : (List Yl)) (t3 : Unit) : Option (Ctl (Yg) (Unit) (Unit)) :=
 bif (!decide ((decide ((↑k0 : Int) = 0)) = (decide ((↑(((get a0 k0).parents).length) : Int) = 0)))) then
  some (.ret (Yg.mk 5 (↑k0 : Int)))
 else
  YN (Zi (d1z a0 k0) (((get a0 k0).parents).length) ()) (d1A)
def d1x (a0 : (List Yl)) (k0 : Nat) (s0 : Unit) : Option (Ctl (Yg) (Unit) (Unit)) :=
 (d1r ((get a0 k0).name)).bind fun v10 =>
 bif (!v10) then
  some (.ret (Yg.mk 10 (↑k0 : Int)))
 else
  chk (0 ≤ (↑k0 : Int) ∧ k0 ≤ a0.length) <|
  YN (Zi (d0v a0 k0) ((a0.take k0).length) ()) (d1y k0 a0)
def d2X (t0 : Unit) : Option (Yg) :=
 some (Yg.mk 0 0)
def ZJ (a0 : (List Yl)) : Option (Yg) :=
 bif (bif (decide ((↑a0.length : Int) = 0)) then true else (decide (60 < (↑a0.length : Int)))) then
  some (Yg.mk 2 (-1))
 else
  YN (Zi (d1x a0) a0.length ()) (d2X)
def i2h (n : Nat) (a0 : List Yl) : Option (List (List Bool)) :=
 chk (a0.length * 24 ≤ top) <|
 chk (((List.range a0.length).all fun i => (List.range a0.length).all fun j => (Zd n a0 (i : Int) (j : Int)).isSome) = true) <|
 some (tf a0.length a0.length fun (i j : Nat) => (Zd n a0 (i : Int) (j : Int)).getD false)
def d2R (v1 : (List (List Bool))) (k4 : Nat) (k0 : Nat) (k5 : Nat) (s5 : Int) : Option (Ctl (Ctl (Ctl (Int) (Unit) (Unit)) (Unit) (Unit)) (Int) (Int)) :=
 chk ((↑k5 : Int) < (↑v1.length : Int)) <|
 chk ((↑k4 : Int) < (↑((get v1 k5).length) : Int)) <|
 chk (d7C (get (get v1 k5) k4) (k0 < ((get v1 k5).length))) <|
 bif (bif (get (get v1 k5) k4) then (get (get v1 k5) k0) else false) then
  bif (decide (s5 < 0)) then
   some (.nxt (↑k5 : Int))
  else
   chk (0 ≤ s5 ∧ s5 < (↑((get v1 k5).length) : Int)) <|
   bif (!(get (get v1 k5) s5.toNat)) then
    some (.ret (.ret (.ret (↑k0 : Int))))
   else
    some (.nxt s5)
 else
  some (.nxt s5)
def d2S (t5 : Int) : Option (Ctl (Ctl (Int) (Unit) (Unit)) (Unit) (Unit)) :=
 some (.nxt ())
def d2Q (a0 : (List Yl)) (v1 : (List (List Bool))) (k0 : Nat) (k4 : Nat) (s4 : Unit) : Option (Ctl (Ctl (Int) (Unit) (Unit)) (Unit) (Unit)) :=
 chk (a0.length ≤ 9223372036854775807) <|
 YN (Zi (d2R v1 k4 k0) a0.length (-1)) (d2S)
def d2T (t4 : Unit) : Option (Ctl (Int) (Unit) (Unit)) :=
 some (.nxt ())
def d2P (a0 : (List Yl)) (v1 : (List (List Bool))) (k0 : Nat) (s0 : Unit) : Option (Ctl (Int) (Unit) (Unit)) :=
 chk (k0 ≤ 9223372036854775807) <|
 YN (Zi (d2Q a0 v1 k0) k0 ()) (d2T)
def d2U (t0 : Unit) : Option (Int) :=
 some (-1)
def d2N (n : Nat) (a0 : (List Yl)) : Option (Int) :=
 (i2h n a0).bind fun v1 =>
 chk (a0.length ≤ 9223372036854775807) <|
 YN (Zi (d2P a0 v1) a0.length ()) (d2U)
def ZM (a0 : Yo) (k0 : Nat) (k2 : Nat) (s2 : Unit) : Option (Ctl (Ctl (Yg) (Unit) (Unit)) (Unit) (Unit)) :=
 bif (decide (((get (a0.YL.take k0) k2).name) = ((get a0.YL k0).name))) then
  some (.ret (.ret (Yg.mk 7 (↑k0 : Int))))
 else
  some (.nxt ())
def d0C (a0 : Yo) (k0 : Nat) (t2 : Unit) : Option (Ctl (Yg) (Unit) (Unit)) :=
 bif (bif (bif (bif (decide (((get a0.YL k0).of_) < 0)) then true else (decide ((↑a0.types.length : Int) ≤ ((get a0.YL k0).of_)))) then true else (decide (((get a0.YL k0).value) < 0))) then true else (decide ((↑a0.types.length : Int) ≤ ((get a0.YL k0).value)))) then
  some (.ret (Yg.mk 3 (↑k0 : Int)))
 else
  some (.nxt ())
def ZL (a0 : Yo) (k0 : Nat) (s0 : Unit) : Option (Ctl (Yg) (Unit) (Unit)) :=
 (d1r ((get a0.YL k0).name)).bind fun v6 =>
 bif (!v6) then
  some (.ret (Yg.mk 10 (↑k0 : Int)))
 else
  chk (0 ≤ (↑k0 : Int) ∧ k0 ≤ a0.YL.length) <|
  YN (Zi (ZM a0 k0) ((a0.YL.take k0).length) ()) (d0C a0 k0)
def d0B (t0 : Unit) : Option (Yg) :=
 some (Yg.mk 0 0)
def ZY (n : Nat) (a0 : Yo) : Option (Yg) :=
 bif (decide (40 < (↑a0.YL.length : Int))) then
  some (Yg.mk 2 (-1))
 else
  (ZJ a0.types).bind fun v1 =>
  bif (!decide (v1.code = 0)) then
   some v1
  else
   (d2N n a0.types).bind fun v2 =>
   bif (decide (0 ≤ v2)) then
    some (Yg.mk 16 v2)
   else
    YN (Zi (ZL a0) a0.YL.length ()) (d0B)
def d1C (a1 : Yz) (k0 : Nat) (a0 : Yo) (k2 : Nat) (s2 : Unit) : Option (Ctl (Ctl (Yg) (Unit) (Unit)) (Unit) (Unit)) :=
 bif (bif (bif (bif (decide (((get ((get a1.nodes k0).links) k2).d6N) < 0)) then true else (decide ((↑a0.YL.length : Int) ≤ ((get ((get a1.nodes k0).links) k2).d6N)))) then true else (decide (((get ((get a1.nodes k0).links) k2).to_) < 0))) then true else (decide ((↑a1.nodes.length : Int) ≤ ((get ((get a1.nodes k0).links) k2).to_)))) then
  some (.ret (.ret (Yg.mk 3 (↑k0 : Int))))
 else
  chk (d7C (decide (0 < (↑k2 : Int))) (0 ≤ (wr .i64 ((↑k2 : Int) - 1))) ∧ d7C (decide (0 < (↑k2 : Int))) ((wr .i64 ((↑k2 : Int) - 1)) < (↑(((get a1.nodes k0).links).length) : Int))) <|
  bif (bif (decide (0 < (↑k2 : Int))) then (decide (((get ((get a1.nodes k0).links) k2).d6N) ≤ ((get ((get a1.nodes k0).links) ((wr .i64 ((↑k2 : Int) - 1)).toNat)).d6N))) else false) then
   some (.ret (.ret (Yg.mk 13 (↑k0 : Int))))
  else
   some (.nxt ())
def d1D (t2 : Unit) : Option (Ctl (Yg) (Unit) (Unit)) :=
 some (.nxt ())
def d1B (a1 : Yz) (a0 : Yo) (k0 : Nat) (s0 : Unit) : Option (Ctl (Yg) (Unit) (Unit)) :=
 bif (bif (decide (((get a1.nodes k0).type) < 0)) then true else (decide ((↑a0.types.length : Int) ≤ ((get a1.nodes k0).type)))) then
  some (.ret (Yg.mk 3 (↑k0 : Int)))
 else
  YN (Zi (d1C a1 k0 a0) (((get a1.nodes k0).links).length) ()) (d1D)
def d2Y (t0 : Unit) : Option (Yg) :=
 some (Yg.mk 0 0)
def d0W (a0 : Yo) (a1 : Yz) : Option (Yg) :=
 bif (bif (decide ((↑a1.nodes.length : Int) = 0)) then true else (decide (60 < (↑a1.nodes.length : Int)))) then
  some (Yg.mk 2 (-2))
 else
  YN (Zi (d1B a1 a0) a1.nodes.length ()) (d2Y)
def d1L (k4 : Nat) (a0 : Yz) (k6 : Nat) (s6 : (List Bool)) : Option (Ctl (Ctl (Ctl (Int) ((List Bool)) ((List Bool))) ((List Bool)) ((List Bool))) ((List Bool)) ((List Bool))) :=
 chk ((↑k4 : Int) < (↑s6.length : Int)) <|
 bif (get s6 k4) then
  chk (0 ≤ (get ((get a0.nodes k4).links) k6).to_ ∧ (get ((get a0.nodes k4).links) k6).to_ < (↑s6.length : Int)) <|
  d6r (s6.set (((get ((get a0.nodes k4).links) k6).to_).toNat) true) fun c88 =>
  some (.nxt c88)
 else
  some (.nxt s6)
def d1M (t6 : (List Bool)) : Option (Ctl (Ctl (Int) ((List Bool)) ((List Bool))) ((List Bool)) ((List Bool))) :=
 some (.nxt t6)
def d1K (a0 : Yz) (k4 : Nat) (s4 : (List Bool)) : Option (Ctl (Ctl (Int) ((List Bool)) ((List Bool))) ((List Bool)) ((List Bool))) :=
 YN (Zi (d1L k4 a0) (((get a0.nodes k4).links).length) s4) (d1M)
def d1N (t4 : (List Bool)) : Option (Ctl (Int) ((List Bool)) ((List Bool))) :=
 some (.nxt t4)
def d1J (a0 : Yz) (k0 : Nat) (s0 : (List Bool)) : Option (Ctl (Int) ((List Bool)) ((List Bool))) :=
 YN (Zi (d1K a0) a0.nodes.length s0) (d1N)
def d1O (t0 : (List Bool)) : Option (Int) :=
 (ZX t0 false).bind fun v91 =>
 some v91
def d0x (a0 : Yz) : Option (Int) :=
 chk (a0.nodes.length * 1 ≤ top ∧ a0.nodes.length ≤ top) <|
 chk (0 < (↑a0.nodes.length : Int)) <|
 d6r ((List.replicate a0.nodes.length (default : Bool)).set 0 true) fun c7 =>
 chk (a0.nodes.length ≤ 9223372036854775807) <|
 YN (Zi (d1J a0) a0.nodes.length c7) (d1O)
def d1k (n : Nat) (a1 : Yz) (k0 : Nat) (a0 : Yo) (k2 : Nat) (s2 : Unit) : Option (Ctl (Ctl (Yg) (Unit) (Unit)) (Unit) (Unit)) :=
 chk (0 ≤ (get ((get a1.nodes k0).links) k2).d6N ∧ (get ((get a1.nodes k0).links) k2).d6N < (↑a0.YL.length : Int)) <|
 (Zd n a0.types ((get a1.nodes k0).type) ((get a0.YL (((get ((get a1.nodes k0).links) k2).d6N).toNat)).of_)).bind fun v25 =>
 chk (d7C (!(!v25)) (0 ≤ (get ((get a1.nodes k0).links) k2).to_) ∧ d7C (!(!v25)) ((get ((get a1.nodes k0).links) k2).to_ < (↑a1.nodes.length : Int))) <|
 (gd (!(!v25)) (Zd n a0.types ((get a1.nodes (((get ((get a1.nodes k0).links) k2).to_).toNat)).type) ((get a0.YL (((get ((get a1.nodes k0).links) k2).d6N).toNat)).value)) default).bind fun v29 =>
 bif (bif (!v25) then true else (!v29)) then
  some (.ret (.ret (Yg.mk 12 (↑k0 : Int))))
 else
  some (.nxt ())
def d1l (t2 : Unit) : Option (Ctl (Yg) (Unit) (Unit)) :=
 some (.nxt ())
def d1j (n : Nat) (a1 : Yz) (a0 : Yo) (k0 : Nat) (s0 : Unit) : Option (Ctl (Yg) (Unit) (Unit)) :=
 YN (Zi (d1k n a1 k0 a0) (((get a1.nodes k0).links).length) ()) (d1l)
def d1m (a1 : Yz) (t0 : Unit) : Option (Yg) :=
 (d0x a1).bind fun v30 =>
 bif (decide (0 ≤ v30)) then
  some (Yg.mk 5 v30)
 else
  some (Yg.mk 0 0)
def ZF (n : Nat) (a0 : Yo) (a1 : Yz) : Option (Yg) :=
 (d0W a0 a1).bind fun v1 =>
 bif (!decide (v1.code = 0)) then
  some v1
 else
  YN (Zi (d1j n a1 a0) a1.nodes.length ()) (d1m a1)
def d2D (a0 : Yz) (a1 : Int) (a2 : Int) (k0 : Nat) (s0 : Unit) : Option (Ctl (Int) (Unit) (Unit)) :=
 bif (decide (((get ((get a0.nodes a1.toNat).links) k0).d6N) = a2)) then
  some (.ret ((get ((get a0.nodes a1.toNat).links) k0).to_))
 else
  some (.nxt ())
def d2E (t0 : Unit) : Option (Int) :=
 some (-1)
def d0D (a0 : Yz) (a1 : Int) (a2 : Int) : Option (Int) :=
 chk (0 ≤ a1 ∧ a1 < (↑a0.nodes.length : Int)) <|
 YN (Zi (d2D a0 a1 a2) (((get a0.nodes a1.toNat).links).length) ()) (d2E)
def d2y (a0 : Ye) : Option (Bool) :=
 some (bif (decide (a0.base = [])) then (decide ((↑a0.args.length : Int) = 0)) else false)
def d3s (a0 : Bs) (s0 : Int) : Option (Ctl (Bool) (Int) (Unit)) :=
 bif (decide (s0 < (↑a0.length : Int))) then
  chk (0 ≤ s0 ∧ s0 < (↑a0.length : Int)) <|
  bif (bif (!(bif (decide (97 ≤ (Yx a0 s0))) then (decide ((Yx a0 s0) ≤ 122)) else false)) then (bif (decide (s0 = 0)) then true else (!(bif (bif (bif (decide (48 ≤ (Yx a0 s0))) then (decide ((Yx a0 s0) ≤ 57)) else false) then true else (decide ((Yx a0 s0) = 95))) then true else (decide ((Yx a0 s0) = 45))))) else false) then
   some (.ret false)
  else
   some (.nxt (wr .i64 (s0 + 1)))
 else
  some (.brk ())
def d4O (t0 : Unit) : Option (Bool) :=
 some true
def d3h (n : Nat) (a0 : Bs) : Option (Bool) :=
 bif (bif (decide ((↑a0.length : Int) < 1)) then true else (decide (30 < (↑a0.length : Int)))) then
  some false
 else
  YN (d2e (d3s a0) n 0) (d4O)
def Zb (s0 : (List Yp) × Int × Nat) : Option (Ctl (Int) ((List Yp) × Int × Nat) (Unit)) :=
 bif (decide (0 < (↑s0.2.2 : Int))) then
  chk (s0.2.2 ≤ s0.1.length) <|
  chk (0 ≤ (wr .i64 ((↑s0.2.2 : Int) - 1)) ∧ (wr .i64 ((↑s0.2.2 : Int) - 1)) < (↑s0.2.2 : Int)) <|
  chk ((wr .i64 ((↑s0.2.2 : Int) - 1)).toNat ≤ s0.2.2) <|
  bif (bif (decide (200 < (wr .i64 (s0.2.1 + 1)))) then true else (decide (40 < ((get s0.1 ((wr .i64 ((↑s0.2.2 : Int) - 1)).toNat)).depth)))) then
   some (.ret 1)
  else
   bif (decide (((get s0.1 ((wr .i64 ((↑s0.2.2 : Int) - 1)).toNat)).s.base) = [])) then
    bif (!decide ((↑(((get s0.1 ((wr .i64 ((↑s0.2.2 : Int) - 1)).toNat)).s.args).length) : Int) = 2)) then
     some (.ret 5)
    else
     chk (1 < (↑(((get s0.1 ((wr .i64 ((↑s0.2.2 : Int) - 1)).toNat)).s.args).length) : Int)) <|
     chk (0 < (↑(((get s0.1 ((wr .i64 ((↑s0.2.2 : Int) - 1)).toNat)).s.args).length) : Int)) <|
     chk ((wr .i64 ((↑s0.2.2 : Int) - 1)).toNat ≤ s0.1.length) <|
     d6r ((s0.1.take ((wr .i64 ((↑s0.2.2 : Int) - 1)).toNat)) ++ [(Yp.mk (get ((get s0.1 ((wr .i64 ((↑s0.2.2 : Int) - 1)).toNat)).s.args) 1) (wr .i64 (((get s0.1 ((wr .i64 ((↑s0.2.2 : Int) - 1)).toNat)).depth) + 1))), (Yp.mk (get ((get s0.1 ((wr .i64 ((↑s0.2.2 : Int) - 1)).toNat)).s.args) 0) (wr .i64 (((get s0.1 ((wr .i64 ((↑s0.2.2 : Int) - 1)).toNat)).depth) + 1)))]) fun c25 =>
     chk (c25.length * 48 ≤ top ∧ c25.length ≤ top) <|
     some (.nxt (c25, (wr .i64 (s0.2.1 + 1)), c25.length))
   else
    bif (bif (bif (!decide (((get s0.1 ((wr .i64 ((↑s0.2.2 : Int) - 1)).toNat)).s.base) = [101])) then (!decide (((get s0.1 ((wr .i64 ((↑s0.2.2 : Int) - 1)).toNat)).s.base) = [116])) else false) then true else (!decide ((↑(((get s0.1 ((wr .i64 ((↑s0.2.2 : Int) - 1)).toNat)).s.args).length) : Int) = 0))) then
     some (.ret 5)
    else
     some (.nxt (s0.1, (wr .i64 (s0.2.1 + 1)), (wr .i64 ((↑s0.2.2 : Int) - 1)).toNat))
 else
  some (.brk ())
def d1n (t0 : Unit) : Option (Int) :=
 some 0
def d0H (n : Nat) (a0 : Ye) : Option (Int) :=
 YN (d2e (Zb) n ([(Yp.mk a0 1)], 0, 1)) (d1n)
def ZQ (a0 : (List YF)) (s0 : Int × Int) : Option (Ctl (Int) (Int × Int) (Unit)) :=
 bif (decide (0 ≤ s0.2)) then
  chk (0 ≤ s0.2 ∧ s0.2 < (↑a0.length : Int)) <|
  bif (decide (((get a0 s0.2.toNat).kind) = 3)) then
   bif (decide (s0.1 = 0)) then
    some (.ret s0.2)
   else
    some (.nxt ((wr .i64 (s0.1 - 1)), (get a0 s0.2.toNat).up))
  else
   some (.nxt (s0.1, (get a0 s0.2.toNat).up))
 else
  some (.brk ())
def d4n (t0 : Unit) : Option (Int) :=
 some (-1)
def d1t (n : Nat) (a0 : (List YF)) (a1 : Int) : Option (Int) :=
 chk (0 ≤ a1 ∧ a1 < (↑a0.length : Int)) <|
 YN (d2e (ZQ a0) n ((get a0 a1.toNat).index, (get a0 a1.toNat).up)) (d4n)
def d5y (a0 : Ye) (a1 : Ye) : Option (Ye) :=
 some (Ye.mk [] [a0, a1])
def Zk : Nat → (Ye) → Option (Bs)
 | 0, _ => none
 | n + 1, a0 =>
  bif (!decide (a0.base = [])) then
   some a0.base
  else
   chk (0 < (↑a0.args.length : Int)) <|
   (Zk n (get a0.args 0)).bind fun v2 =>
   chk (d7Y [40] v2) <|
   chk (d7Y (i5W [40] v2) [32]) <|
   chk (1 < (↑a0.args.length : Int)) <|
   (Zk n (get a0.args 1)).bind fun v6 =>
   chk (d7Y (i5W (i5W [40] v2) [32]) v6) <|
   chk (d7Y (i5W (i5W (i5W [40] v2) [32]) v6) [41]) <|
   some (i5W (i5W (i5W (i5W [40] v2) [32]) v6) [41])
def d1R (n : Nat) (a0 : Ye) (a1 : Ye) : Option (Bool) :=
 (Zk n a0).bind fun v1 =>
 (Zk n a1).bind fun v2 =>
 some (decide (v1 = v2))
def d0y (n : Nat) (v1 : (List YF)) (s0 : (List Ye) × Int) : Option (Ctl (Ye × Bool) ((List Ye) × Int) ((List Ye))) :=
 bif (decide (0 ≤ s0.2)) then
  chk (0 ≤ s0.2 ∧ s0.2 < (↑v1.length : Int)) <|
  bif (decide (((get v1 s0.2.toNat).kind) = 1)) then
   chk (s0.2 < (↑s0.1.length : Int)) <|
   d6r (s0.1.set s0.2.toNat ((get v1 s0.2.toNat).typ)) fun c54 =>
   some (.nxt (c54, (wr .i64 (s0.2 - 1))))
  else
   bif (decide (((get v1 s0.2.toNat).kind) = 2)) then
    (d1t n v1 s0.2).bind fun v57 =>
    chk (0 ≤ v57 ∧ v57 < (↑v1.length : Int)) <|
    chk (s0.2 < (↑s0.1.length : Int)) <|
    d6r (s0.1.set s0.2.toNat ((get v1 v57.toNat).typ)) fun c63 =>
    some (.nxt (c63, (wr .i64 (s0.2 - 1))))
   else
    bif (decide (((get v1 s0.2.toNat).kind) = 3)) then
     chk (0 < (↑(((get v1 s0.2.toNat).kids).length) : Int)) <|
     chk (0 ≤ (get ((get v1 s0.2.toNat).kids) 0) ∧ (get ((get v1 s0.2.toNat).kids) 0) < (↑s0.1.length : Int)) <|
     (d5y ((get v1 s0.2.toNat).typ) (get s0.1 ((get ((get v1 s0.2.toNat).kids) 0).toNat))).bind fun v71 =>
     chk (s0.2 < (↑s0.1.length : Int)) <|
     d6r (s0.1.set s0.2.toNat v71) fun c75 =>
     some (.nxt (c75, (wr .i64 (s0.2 - 1))))
    else
     bif (decide (((get v1 s0.2.toNat).kind) = 4)) then
      chk (0 < (↑(((get v1 s0.2.toNat).kids).length) : Int)) <|
      chk (0 ≤ (get ((get v1 s0.2.toNat).kids) 0) ∧ (get ((get v1 s0.2.toNat).kids) 0) < (↑s0.1.length : Int)) <|
      chk (1 < (↑(((get v1 s0.2.toNat).kids).length) : Int)) <|
      chk (0 ≤ (get ((get v1 s0.2.toNat).kids) 1) ∧ (get ((get v1 s0.2.toNat).kids) 1) < (↑s0.1.length : Int)) <|
      chk (d7C (!(bif (!decide (((get s0.1 ((get ((get v1 s0.2.toNat).kids) 0).toNat)).base) = [])) then true else (!decide ((↑(((get s0.1 ((get ((get v1 s0.2.toNat).kids) 0).toNat)).args).length) : Int) = 2)))) (0 < (↑(((get s0.1 ((get ((get v1 s0.2.toNat).kids) 0).toNat)).args).length) : Int))) <|
      (gd (!(bif (!decide (((get s0.1 ((get ((get v1 s0.2.toNat).kids) 0).toNat)).base) = [])) then true else (!decide ((↑(((get s0.1 ((get ((get v1 s0.2.toNat).kids) 0).toNat)).args).length) : Int) = 2)))) (d1R n (get ((get s0.1 ((get ((get v1 s0.2.toNat).kids) 0).toNat)).args) 0) (get s0.1 ((get ((get v1 s0.2.toNat).kids) 1).toNat))) default).bind fun v90 =>
      bif (bif (bif (!decide (((get s0.1 ((get ((get v1 s0.2.toNat).kids) 0).toNat)).base) = [])) then true else (!decide ((↑(((get s0.1 ((get ((get v1 s0.2.toNat).kids) 0).toNat)).args).length) : Int) = 2))) then true else (!v90)) then
       some (.ret ((Ye.mk [] []), false))
      else
       chk (1 < (↑(((get s0.1 ((get ((get v1 s0.2.toNat).kids) 0).toNat)).args).length) : Int)) <|
       chk (s0.2 < (↑s0.1.length : Int)) <|
       d6r (s0.1.set s0.2.toNat (get ((get s0.1 ((get ((get v1 s0.2.toNat).kids) 0).toNat)).args) 1)) fun c95 =>
       some (.nxt (c95, (wr .i64 (s0.2 - 1))))
     else
      some (.nxt (s0.1, (wr .i64 (s0.2 - 1))))
 else
  some (.brk s0.1)
def d2F (t0 : (List Ye)) : Option (Ye × Bool) :=
 chk (0 < (↑t0.length : Int)) <|
 some ((get t0 0), true)
def d2z (n : Nat) (a0 : Yh) : Option (Ye × Bool) :=
 (p2S n a0).bind fun v1 =>
 chk (v1.length * 40 ≤ top ∧ v1.length ≤ top) <|
 YN (d2e (d0y n v1) n ((List.replicate v1.length (default : Ye)), (wr .i64 ((↑v1.length : Int) - 1)))) (d2F)
def d1P (s0 : (List Yj) × Int × Nat) (j5 : Int) (s6 : (List Yj) × Int × Nat) : Option (Ctl (Ctl (Yg) ((List Yj) × Int × Nat) (Unit)) ((List Yj) × Int × Nat) ((List Yj) × Nat)) :=
 bif (decide (0 ≤ s6.2.1)) then
  chk (0 ≤ s6.2.1 ∧ s6.2.1 < (↑(((get s0.1 ((wr .i64 ((↑s0.2.2 : Int) - 1)).toNat)).t.args).length) : Int)) <|
  chk (s6.2.2 ≤ s6.1.length) <|
  d6r ((s6.1.take s6.2.2) ++ [(Yj.mk (get ((get s0.1 ((wr .i64 ((↑s0.2.2 : Int) - 1)).toNat)).t.args) s6.2.1.toNat) (wr .i64 (((get s0.1 ((wr .i64 ((↑s0.2.2 : Int) - 1)).toNat)).depth) + 1)) j5)]) fun c57 =>
  chk (c57.length * 112 ≤ top ∧ c57.length ≤ top) <|
  some (.nxt (c57, (wr .i64 (s6.2.1 - 1)), c57.length))
 else
  some (.brk (s6.1, s6.2.2))
def d1Q (s0 : (List Yj) × Int × Nat) (t6 : (List Yj) × Nat) : Option (Ctl (Yg) ((List Yj) × Int × Nat) (Unit)) :=
 some (.nxt (t6.1, (wr .i64 (s0.2.1 + 1)), t6.2))
def ZP (n : Nat) (s0 : (List Yj) × Int × Nat) (j5 : Int) : Option (Ctl (Yg) ((List Yj) × Int × Nat) (Unit)) :=
 YN (d2e (d1P s0 j5) n (s0.1, (wr .i64 ((↑(((get s0.1 ((wr .i64 ((↑s0.2.2 : Int) - 1)).toNat)).t.args).length) : Int) - 1)), (wr .i64 ((↑s0.2.2 : Int) - 1)).toNat)) (d1Q s0)
def YO (n : Nat) (s0 : (List Yj) × Int × Nat) (j4 : Int) : Option (Ctl (Yg) ((List Yj) × Int × Nat) (Unit)) :=
 bif (!decide (j4 = 0)) then
  some (.ret (Yg.mk j4 s0.2.1))
 else
  bif (decide (((get s0.1 ((wr .i64 ((↑s0.2.2 : Int) - 1)).toNat)).t.kind) = 3)) then
   ZP n s0 (wr .i64 (((get s0.1 ((wr .i64 ((↑s0.2.2 : Int) - 1)).toNat)).bound) + 1))
  else
   ZP n s0 ((get s0.1 ((wr .i64 ((↑s0.2.2 : Int) - 1)).toNat)).bound)
def YK (n : Nat) (s0 : (List Yj) × Int × Nat) : Option (Ctl (Yg) ((List Yj) × Int × Nat) (Unit)) :=
 bif (decide (0 < (↑s0.2.2 : Int))) then
  chk (s0.2.2 ≤ s0.1.length) <|
  chk (0 ≤ (wr .i64 ((↑s0.2.2 : Int) - 1)) ∧ (wr .i64 ((↑s0.2.2 : Int) - 1)) < (↑s0.2.2 : Int)) <|
  chk ((wr .i64 ((↑s0.2.2 : Int) - 1)).toNat ≤ s0.2.2) <|
  bif (bif (decide (200 ≤ s0.2.1)) then true else (decide (40 < ((get s0.1 ((wr .i64 ((↑s0.2.2 : Int) - 1)).toNat)).depth)))) then
   YO n s0 1
  else
   bif (bif (decide (((get s0.1 ((wr .i64 ((↑s0.2.2 : Int) - 1)).toNat)).t.kind) < 1)) then true else (decide (4 < ((get s0.1 ((wr .i64 ((↑s0.2.2 : Int) - 1)).toNat)).t.kind)))) then
    YO n s0 4
   else
    chk (0 ≤ (get s0.1 ((wr .i64 ((↑s0.2.2 : Int) - 1)).toNat)).t.kind ∧ (get s0.1 ((wr .i64 ((↑s0.2.2 : Int) - 1)).toNat)).t.kind < 5) <|
    (gd ((bif (bif (decide ((↑(((get s0.1 ((wr .i64 ((↑s0.2.2 : Int) - 1)).toNat)).t.args).length) : Int) = (get [0, 0, 0, 1, 2] (((get s0.1 ((wr .i64 ((↑s0.2.2 : Int) - 1)).toNat)).t.kind).toNat)))) then (bif (decide (((get s0.1 ((wr .i64 ((↑s0.2.2 : Int) - 1)).toNat)).t.kind) = 1)) then true else (decide (((get s0.1 ((wr .i64 ((↑s0.2.2 : Int) - 1)).toNat)).t.name) = []))) else false) then (bif (decide (((get s0.1 ((wr .i64 ((↑s0.2.2 : Int) - 1)).toNat)).t.kind) = 2)) then true else (decide (((get s0.1 ((wr .i64 ((↑s0.2.2 : Int) - 1)).toNat)).t.index) = 0))) else false) && (!(bif (decide (((get s0.1 ((wr .i64 ((↑s0.2.2 : Int) - 1)).toNat)).t.kind) = 1)) then true else (decide (((get s0.1 ((wr .i64 ((↑s0.2.2 : Int) - 1)).toNat)).t.kind) = 3))))) (d2y ((get s0.1 ((wr .i64 ((↑s0.2.2 : Int) - 1)).toNat)).t.type)) default).bind fun v41 =>
    bif (!(bif (bif (bif (decide ((↑(((get s0.1 ((wr .i64 ((↑s0.2.2 : Int) - 1)).toNat)).t.args).length) : Int) = (get [0, 0, 0, 1, 2] (((get s0.1 ((wr .i64 ((↑s0.2.2 : Int) - 1)).toNat)).t.kind).toNat)))) then (bif (decide (((get s0.1 ((wr .i64 ((↑s0.2.2 : Int) - 1)).toNat)).t.kind) = 1)) then true else (decide (((get s0.1 ((wr .i64 ((↑s0.2.2 : Int) - 1)).toNat)).t.name) = []))) else false) then (bif (decide (((get s0.1 ((wr .i64 ((↑s0.2.2 : Int) - 1)).toNat)).t.kind) = 2)) then true else (decide (((get s0.1 ((wr .i64 ((↑s0.2.2 : Int) - 1)).toNat)).t.index) = 0))) else false) then (bif (bif (decide (((get s0.1 ((wr .i64 ((↑s0.2.2 : Int) - 1)).toNat)).t.kind) = 1)) then true else (decide (((get s0.1 ((wr .i64 ((↑s0.2.2 : Int) - 1)).toNat)).t.kind) = 3))) then true else v41) else false)) then
     YO n s0 5
    else
     (gd (decide (((get s0.1 ((wr .i64 ((↑s0.2.2 : Int) - 1)).toNat)).t.kind) = 1)) (d3h n ((get s0.1 ((wr .i64 ((↑s0.2.2 : Int) - 1)).toNat)).t.name)) default).bind fun v42 =>
     bif (bif (decide (((get s0.1 ((wr .i64 ((↑s0.2.2 : Int) - 1)).toNat)).t.kind) = 1)) then (!v42) else false) then
      YO n s0 10
     else
      (gd (bif (decide (((get s0.1 ((wr .i64 ((↑s0.2.2 : Int) - 1)).toNat)).t.kind) = 1)) then true else (decide (((get s0.1 ((wr .i64 ((↑s0.2.2 : Int) - 1)).toNat)).t.kind) = 3))) (d0H n ((get s0.1 ((wr .i64 ((↑s0.2.2 : Int) - 1)).toNat)).t.type)) default).bind fun v43 =>
      bif (bif (bif (decide (((get s0.1 ((wr .i64 ((↑s0.2.2 : Int) - 1)).toNat)).t.kind) = 1)) then true else (decide (((get s0.1 ((wr .i64 ((↑s0.2.2 : Int) - 1)).toNat)).t.kind) = 3))) then (!decide (v43 = 0)) else false) then
       YO n s0 12
      else
       bif (bif (decide (((get s0.1 ((wr .i64 ((↑s0.2.2 : Int) - 1)).toNat)).t.kind) = 2)) then (bif (decide (((get s0.1 ((wr .i64 ((↑s0.2.2 : Int) - 1)).toNat)).t.index) < 0)) then true else (decide (((get s0.1 ((wr .i64 ((↑s0.2.2 : Int) - 1)).toNat)).bound) ≤ ((get s0.1 ((wr .i64 ((↑s0.2.2 : Int) - 1)).toNat)).t.index)))) else false) then
        YO n s0 15
       else
        YO n s0 0
 else
  some (.brk ())
def d1S (n : Nat) (a0 : Yh) (t0 : Unit) : Option (Yg) :=
 (d2z n a0).bind fun v62 =>
 bif (!v62.2) then
  some (Yg.mk 12 (-1))
 else
  some (Yg.mk 0 0)
def d1u (n : Nat) (a0 : Yh) : Option (Yg) :=
 YN (d2e (YK n) n ([(Yj.mk a0 1 0)], 0, 1)) (d1S n a0)
def ZR (n : Nat) (a0 : Yh) : Option (Yg) :=
 (d1u n a0).bind fun v1 =>
 some v1
def Zz (a1 : Yi) (k0 : Nat) (s0 : Unit) : Option (Ctl (Int) (Unit) (Unit)) :=
 (d0D a1.graph 0 (↑k0 : Int)).bind fun v2 =>
 bif (!decide ((decide (0 ≤ v2)) = (decide ((↑k0 : Int) ≤ a1.kids)))) then
  some (.ret 5)
 else
  some (.nxt ())
def d1T (n : Nat) (a1 : Yi) (t0 : Unit) : Option (Int) :=
 (ZR n a1.meaning).bind fun v3 =>
 some v3.code
def d1v (n : Nat) (a0 : Yo) (a1 : Yi) : Option (Int) :=
 bif (bif (bif (bif (decide (a1.kids < 1)) then true else (decide (3 < a1.kids))) then true else (decide (a1.weight < 0))) then true else (decide (1000000 < a1.weight))) then
  some 3
 else
  (ZF n a0 a1.graph).bind fun v1 =>
  bif (!decide (v1.code = 0)) then
   some v1.code
  else
   YN (Zi (Zz a1) 4 ()) (d1T n a1)
def YX (j0 : Int × Int × Int) (a0 : Bs) (s1 : Int × Int) : Option (Ctl (Int) (Int × Int) (Int)) :=
 bif (decide (s1.2 < j0.1)) then
  chk (0 ≤ s1.2 ∧ s1.2 < (↑a0.length : Int)) <|
  bif (bif (decide ((Yx a0 s1.2) < 128)) then true else (decide (191 < (Yx a0 s1.2)))) then
   some (.ret 0)
  else
   some (.nxt ((wr .i64 ((wr .i64 ((wr .i64 (64 * s1.1)) + (wr .i64 (Yx a0 s1.2)))) - 128)), (wr .i64 (s1.2 + 1))))
 else
  some (.brk s1.1)
def d1E (j0 : Int × Int × Int) (t1 : Int) : Option (Int) :=
 bif (bif (bif (decide (t1 < j0.2.1)) then true else (decide (1114111 < t1))) then true else (bif (decide (55296 ≤ t1)) then (decide (t1 ≤ 57343)) else false)) then
  some 0
 else
  some j0.1
def Ze (n : Nat) (a0 : Bs) (j0 : Int × Int × Int) : Option (Int) :=
 bif (decide ((↑a0.length : Int) < j0.1)) then
  some 0
 else
  YN (d2e (YX j0 a0) n (j0.2.2, 1)) (d1E j0)
def d0X (n : Nat) (a0 : Bs) : Option (Int) :=
 chk (0 < (↑a0.length : Int)) <|
 bif (decide ((Yx a0 0) < 128)) then
  some 1
 else
  bif (bif (decide (194 ≤ (Yx a0 0))) then (decide ((Yx a0 0) ≤ 223)) else false) then
   Ze n a0 (2, 128, (wr .i64 ((wr .i64 (Yx a0 0)) - 192)))
  else
   bif (bif (decide (224 ≤ (Yx a0 0))) then (decide ((Yx a0 0) ≤ 239)) else false) then
    Ze n a0 (3, 2048, (wr .i64 ((wr .i64 (Yx a0 0)) - 224)))
   else
    bif (bif (decide (240 ≤ (Yx a0 0))) then (decide ((Yx a0 0) ≤ 244)) else false) then
     Ze n a0 (4, 65536, (wr .i64 ((wr .i64 (Yx a0 0)) - 240)))
    else
     some 0
def d3t (a0 : Bs) (s0 : Nat × Int) : Option (Ctl (Bool) (Nat × Int) (Int)) :=
 bif (decide (s0.1 < a0.length)) then
  chk (s0.1 < a0.length) <|
  bif (bif (bif (bif (bif (bif (bif (bif (bif (decide ((rune a0 s0.1) = 32)) then true else (decide ((rune a0 s0.1) = 9))) then true else (decide ((rune a0 s0.1) = 10))) then true else (decide ((rune a0 s0.1) = 40))) then true else (decide ((rune a0 s0.1) = 41))) then true else (decide ((rune a0 s0.1) = 91))) then true else (decide ((rune a0 s0.1) = 93))) then true else (decide ((rune a0 s0.1) = 44))) then true else (decide ((rune a0 s0.1) = 59))) then
   some (.ret false)
  else
   some (.nxt ((s0.1 + d7j a0 s0.1), (wr .i64 (s0.2 + 1))))
 else
  some (.brk s0.2)
def d3v (n : Nat) (a0 : Bs) (s1 : Int) : Option (Ctl (Bool) (Int) (Unit)) :=
 bif (decide (s1 < (↑a0.length : Int))) then
  chk (0 ≤ s1 ∧ s1.toNat ≤ a0.length) <|
  (d0X n (a0.drop s1.toNat)).bind fun v8 =>
  bif (decide (v8 = 0)) then
   some (.ret false)
  else
   some (.nxt (wr .i64 (s1 + v8)))
 else
  some (.brk ())
def d4P (t1 : Unit) : Option (Bool) :=
 some true
def d3u (n : Nat) (a0 : Bs) (t0 : Int) : Option (Bool) :=
 bif (bif (decide (t0 < 1)) then true else (decide (30 < t0))) then
  some false
 else
  YN (d2e (d3v n a0) n 0) (d4P)
def d3k (n : Nat) (a0 : Bs) : Option (Bool) :=
 YN (d2e (d3t a0) n (0, 0)) (d3u n a0)
def d1U (n : Nat) (a0 : Yo) (a1 : YT) : Option (Int) :=
 (d3k n a1.word).bind fun v1 =>
 bif (!v1) then
  some 10
 else
  bif (bif (decide (a1.weight < 0)) then true else (decide (1000000 < a1.weight))) then
   some 3
  else
   (ZF n a0 a1.graph).bind fun v2 =>
   bif (!decide (v2.code = 0)) then
    some v2.code
   else
    (ZR n a1.meaning).bind fun v3 =>
    some v3.code
def ZV (a0 : Yn) (k0 : Nat) (k1 : Nat) (s1 : Unit) : Option (Ctl (Ctl (Yg) (Unit) (Unit)) (Unit) (Unit)) :=
 bif (decide (((get (a0.rules.take k0) k1).name) = ((get a0.rules k0).name))) then
  some (.ret (.ret (Yg.mk 7 (↑k0 : Int))))
 else
  some (.nxt ())
def d0M (n : Nat) (a0 : Yn) (k0 : Nat) (t1 : Unit) : Option (Ctl (Yg) (Unit) (Unit)) :=
 (d1v n a0.hierarchy (get a0.rules k0)).bind fun v5 =>
 bif (!decide (v5 = 0)) then
  some (.ret (Yg.mk v5 (↑k0 : Int)))
 else
  some (.nxt ())
def d0L (n : Nat) (a0 : Yn) (k0 : Nat) (s0 : Unit) : Option (Ctl (Yg) (Unit) (Unit)) :=
 (d1r ((get a0.rules k0).name)).bind fun v2 =>
 bif (!v2) then
  some (.ret (Yg.mk 10 (↑k0 : Int)))
 else
  chk (0 ≤ (↑k0 : Int) ∧ k0 ≤ a0.rules.length) <|
  YN (Zi (ZV a0 k0) ((a0.rules.take k0).length) ()) (d0M n a0 k0)
def d0O (n : Nat) (a0 : Yn) (k2 : Nat) (s2 : Unit) : Option (Ctl (Yg) (Unit) (Unit)) :=
 (d1U n a0.hierarchy (get a0.Yy k2)).bind fun v6 =>
 bif (!decide (v6 = 0)) then
  some (.ret (Yg.mk v6 (↑k2 : Int)))
 else
  some (.nxt ())
def d0P (n : Nat) (a0 : Yn) (t2 : Unit) : Option (Yg) :=
 (ZF n a0.hierarchy a0.start).bind fun v7 =>
 bif (!decide (v7.code = 0)) then
  some (Yg.mk v7.code (-1))
 else
  some (Yg.mk 0 0)
def d0N (n : Nat) (a0 : Yn) (t0 : Unit) : Option (Yg) :=
 YN (Zi (d0O n a0) a0.Yy.length ()) (d0P n a0)
def d0E (n : Nat) (a0 : Yn) : Option (Yg) :=
 (ZY n a0.hierarchy).bind fun v1 =>
 bif (!decide (v1.code = 0)) then
  some v1
 else
  bif (decide ((↑a0.hierarchy.YL.length : Int) ≤ 3)) then
   some (Yg.mk 9 (-1))
  else
   bif (bif (decide (40 < (↑a0.rules.length : Int))) then true else (decide (100 < (↑a0.Yy.length : Int)))) then
    some (Yg.mk 2 (-1))
   else
    YN (Zi (d0L n a0) a0.rules.length ()) (d0N n a0)
def d4L (a0 : Int) (a1 : Int) : Option (Yg) :=
 some (Yg.mk a0 a1)
def d2l (a0 : Int) (a1 : Int) : Option (Yg) :=
 some (Yg.mk a0 a1)
def d5P (self : (Yr) → (Int) → (Int) → (Int) → ((List Yl)) → ((List Yw)) → ((List Yi)) → ((List YT)) → ((List Yq)) → (Int) → Option (Yg × Int × Int)) (a0 : Yr) (a1 : Int) (j1 : Int) (d5B : (List Yl)) (i5j : (List Yw)) (i3v : (List Yi)) (i3Q : (List YT)) (i5k : (List Yq)) (k2 : Nat) (s2 : Int × Int) : Option (Ctl (Yg × Int × Int) (Int × Int) (Int × Int)) :=
 (self (get a0.kids k2) (wr .i64 (a1 + 1)) j1 s2.1 d5B i5j i3v i3Q i5k s2.2).bind fun v9 =>
 bif (!decide (v9.1.code = 0)) then
  some (.ret (v9.1, v9.2.1, v9.2.2))
 else
  some (.nxt (v9.2.1, v9.2.2))
def d7e (t2 : Int × Int) : Option (Yg × Int × Int) :=
 some ((Yg.mk 0 0), t2.1, t2.2)
def d3O (self : (Yr) → (Int) → (Int) → (Int) → ((List Yl)) → ((List Yw)) → ((List Yi)) → ((List YT)) → ((List Yq)) → (Int) → Option (Yg × Int × Int)) (d0m : Int) (j0 : Int × Int) (a0 : Yr) (a1 : Int) (d5B : (List Yl)) (i5j : (List Yw)) (i3v : (List Yi)) (i3Q : (List YT)) (i5k : (List Yq)) (j1 : Int) : Option (Yg × Int × Int) :=
 bif (decide (3 < j1)) then
  (d2l 14 d0m).bind fun v7 =>
  some (v7, (wr .i64 (d0m + 1)), j0.1)
 else
  YN (Zi (d5P self a0 a1 j1 d5B i5j i3v i3Q i5k) a0.kids.length ((wr .i64 (d0m + 1)), j0.1)) (d7e)
def d4K (self : (Yr) → (Int) → (Int) → (Int) → ((List Yl)) → ((List Yw)) → ((List Yi)) → ((List YT)) → ((List Yq)) → (Int) → Option (Yg × Int × Int)) (a0 : Yr) (d0m : Int) (a1 : Int) (d5B : (List Yl)) (i5j : (List Yw)) (i3v : (List Yi)) (i3Q : (List YT)) (i5k : (List Yq)) (a2 : Int) (j0 : Int × Int) : Option (Yg × Int × Int) :=
 bif (!decide ((↑a0.kids.length : Int) = j0.2)) then
  (d2l 9 d0m).bind fun v6 =>
  some (v6, (wr .i64 (d0m + 1)), j0.1)
 else
  bif (!decide (j0.2 = 1)) then
   d3O self d0m j0 a0 a1 d5B i5j i3v i3Q i5k 0
  else
   d3O self d0m j0 a0 a1 d5B i5j i3v i3Q i5k (wr .i64 (a2 + 1))
def d2k : Nat → (Yr) → (Int) → (Int) → (Int) → ((List Yl)) → ((List Yw)) → ((List Yi)) → ((List YT)) → ((List Yq)) → (Int) → Option (Yg × Int × Int)
 | 0, _, _, _, _, _, _, _, _, _, _ => none
 | n + 1, a0, a1, a2, d0m, d5B, i5j, i3v, i3Q, i5k, i3R =>
  bif (bif (decide (200 < (wr .i64 (d0m + 1)))) then true else (decide (48 < a1))) then
   (d2l 1 d0m).bind fun v1 =>
   some (v1, (wr .i64 (d0m + 1)), i3R)
  else
   bif (bif (bif (decide (a0.rule < (-1))) then true else (decide ((↑i3v.length : Int) ≤ a0.rule))) then true else (bif (decide (a0.rule = (-1))) then (bif (decide (a0.lex < 0)) then true else (decide ((↑i3Q.length : Int) ≤ a0.lex))) else false)) then
    (d2l 3 d0m).bind fun v2 =>
    some (v2, (wr .i64 (d0m + 1)), i3R)
   else
    bif (bif (decide (0 ≤ a0.rule)) then (!decide (a0.lex = 0)) else false) then
     (d2l 5 d0m).bind fun v3 =>
     some (v3, (wr .i64 (d0m + 1)), i3R)
    else
     bif (decide (0 ≤ a0.rule)) then
      chk (0 ≤ a0.rule ∧ a0.rule < (↑i3v.length : Int)) <|
      d4K (d2k n) a0 d0m a1 d5B i5j i3v i3Q i5k a2 (i3R, (get i3v a0.rule.toNat).kids)
     else
      d4K (d2k n) a0 d0m a1 d5B i5j i3v i3Q i5k a2 ((wr .i64 (i3R + 1)), 0)
def d7U (n : Nat) (a0 : Yn) (a1 : Yr) : Option (Yg) :=
 (d2k n a1 1 0 0 a0.hierarchy.types a0.hierarchy.YL a0.rules a0.Yy a0.start.nodes 0).bind fun v1 =>
 bif (!decide (v1.1.code = 0)) then
  some v1.1
 else
  bif (decide (12 < v1.2.2)) then
   (d2l 2 (-2)).bind fun v2 =>
   some v2
  else
   some (Yg.mk 0 0)
def d9a (self : (Yr) → ((List Int)) → ((List Int)) → Option ((List Int) × (List Int))) (a0 : Yr) (k1 : Nat) (s1 : (List Int) × (List Int)) : Option (Ctl ((List Int) × (List Int)) ((List Int) × (List Int)) ((List Int) × (List Int))) :=
 (self (get a0.kids k1) s1.1 s1.2).bind fun v20 =>
 some (.nxt (v20.1, v20.2))
def d9b (t1 : (List Int) × (List Int)) : Option ((List Int) × (List Int)) :=
 some (t1.1, t1.2)
def d7f (self : (Yr) → ((List Int)) → ((List Int)) → Option ((List Int) × (List Int))) (a0 : Yr) (j0 : (List Int) × (List Int)) : Option ((List Int) × (List Int)) :=
 YN (Zi (d9a self a0) a0.kids.length (j0.1, j0.2)) (d9b)
def d6m : Nat → (Yr) → ((List Int)) → ((List Int)) → Option ((List Int) × (List Int))
 | 0, _, _, _ => none
 | n + 1, a0, l1, l2 =>
  bif (decide (a0.rule < 0)) then
   chk (0 ≤ a0.lex ∧ a0.lex < (↑l2.length : Int)) <|
   d6r (l2.set a0.lex.toNat (wr .i64 ((get l2 a0.lex.toNat) + 1))) fun c7 =>
   d7f (d6m n) a0 (l1, c7)
  else
   chk (0 ≤ a0.rule ∧ a0.rule < (↑l1.length : Int)) <|
   d6r (l1.set a0.rule.toNat (wr .i64 ((get l1 a0.rule.toNat) + 1))) fun c16 =>
   d7f (d6m n) a0 (c16, l2)
def d9S (n : Nat) (a0 : Yn) (l0 : (List Yr)) (k0 : Nat) (s0 : (List Int) × (List Int)) : Option (Ctl (YH × Yg) ((List Int) × (List Int)) ((List Int) × (List Int))) :=
 (d7U n a0 (get l0 k0)).bind fun v17 =>
 bif (!decide (v17.code = 0)) then
  (d4L v17.code (↑k0 : Int)).bind fun v18 =>
  some (.ret ((YH.mk [] []), v18))
 else
  (d6m n (get l0 k0) s0.1 s0.2).bind fun v19 =>
  some (.nxt (v19.1, v19.2))
def d9T (t0 : (List Int) × (List Int)) : Option (YH × Yg) :=
 some ((YH.mk t0.1 t0.2), (Yg.mk 0 0))
def i3f (n : Nat) (a0 : Yn) (l0 : (List Yr)) : Option (YH × Yg) :=
 (d4j n a0).bind fun v1 =>
 bif (!decide (v1.code = 0)) then
  some ((YH.mk [] []), v1)
 else
  bif (decide (200 < (↑l0.length : Int))) then
   (d4L 2 (-2)).bind fun v2 =>
   some ((YH.mk [] []), v2)
  else
   chk (a0.rules.length * 8 ≤ top ∧ a0.rules.length ≤ top) <|
   chk (a0.Yy.length * 8 ≤ top ∧ a0.Yy.length ≤ top) <|
   chk (l0.length ≤ 9223372036854775807) <|
   YN (Zi (d9S n a0 l0) l0.length ((List.replicate a0.rules.length (default : Int)), (List.replicate a0.Yy.length (default : Int)))) (d9T)
def d6K (a1 : YH) (k0 : Nat) (s0 : Unit) : Option (Ctl (Yg) (Unit) (Unit)) :=
 bif (bif (decide ((get a1.rules k0) < 0)) then true else (decide (1000000 < (get a1.rules k0)))) then
  (d4L 3 (↑k0 : Int)).bind fun v4 =>
  some (.ret v4)
 else
  some (.nxt ())
def d7N (a1 : YH) (k1 : Nat) (s1 : Unit) : Option (Ctl (Yg) (Unit) (Unit)) :=
 bif (bif (decide ((get a1.Yy k1) < 0)) then true else (decide (1000000 < (get a1.Yy k1)))) then
  (d4L 3 (wr .i64 ((↑a1.rules.length : Int) + (↑k1 : Int)))).bind fun v6 =>
  some (.ret v6)
 else
  some (.nxt ())
def d9U (t1 : Unit) : Option (Yg) :=
 some (Yg.mk 0 0)
def d6L (a1 : YH) (t0 : Unit) : Option (Yg) :=
 YN (Zi (d7N a1) a1.Yy.length ()) (d9U)
def d9v (n : Nat) (a0 : Yn) (a1 : YH) : Option (Yg) :=
 (d4j n a0).bind fun v1 =>
 bif (!decide (v1.code = 0)) then
  some v1
 else
  bif (bif (!decide ((↑a1.rules.length : Int) = (↑a0.rules.length : Int))) then true else (!decide ((↑a1.Yy.length : Int) = (↑a0.Yy.length : Int)))) then
   (d4L 9 (-2)).bind fun v2 =>
   some v2
  else
   YN (Zi (d6K a1) a1.rules.length ()) (d6L a1)
def d6F (a0 : Int) : Option (Int) :=
 bif (decide (a0 < 0)) then
  some (wr .u64 ((wr .u64 (wr .i64 (0 - (wr .i64 (a0 + 1))))) + 1))
 else
  some (wr .u64 a0)
def i0U (s0 : Int × Int) : Option (Ctl (Int) (Int × Int) (Int)) :=
 bif (!decide (s0.2 = 0)) then
  chk (s0.2 ≠ 0) <|
  some (.nxt (s0.2, (Int.tmod s0.1 s0.2)))
 else
  some (.brk s0.1)
def i3g (t0 : Int) : Option (Int) :=
 some t0
def d8m (n : Nat) (a0 : Int) (a1 : Int) : Option (Int) :=
 YN (d2e (i0U) n (a0, a1)) (i3g)
def i4V (a0 : Bool) (a1 : Int) (a2 : Int) : Option (Ym × Yg) :=
 bif (bif (decide (1152921504606846976 < a1)) then true else (decide (1152921504606846976 < a2))) then
  some ((Ym.mk 0 0), (Yg.mk 18 0))
 else
  bif a0 then
   some ((Ym.mk (wr .i64 (0 - (wr .i64 a1))) (wr .i64 a2)), (Yg.mk 0 0))
  else
   some ((Ym.mk (wr .i64 a1) (wr .i64 a2)), (Yg.mk 0 0))
def i2o (n : Nat) (a0 : Int) (a1 : Int) : Option (Ym × Yg) :=
 bif (decide (a1 = 0)) then
  some ((Ym.mk 0 0), (Yg.mk 19 (-2)))
 else
  (d6F a0).bind fun v1 =>
  (d6F a1).bind fun v2 =>
  (d8m n v1 v2).bind fun v3 =>
  chk (v3 ≠ 0 ∧ InK .u64 (Int.tdiv v1 v3)) <|
  chk (InK .u64 (Int.tdiv v2 v3)) <|
  (i4V (!decide ((decide (a0 < 0)) = (decide (a1 < 0)))) (Int.tdiv v1 v3) (Int.tdiv v2 v3)).bind fun v7 =>
  some (v7.1, v7.2)
def d5Z (n : Nat) (l0 : (List Int)) (l2 : (List Int)) (a1 : (List Int)) (k0 : Nat) (s0 : (List Ym)) : Option (Ctl ((List Ym)) ((List Ym)) ((List Ym))) :=
 chk (0 ≤ (get l0 k0) ∧ (get l0 k0) < (↑l2.length : Int)) <|
 bif (decide (0 < (get l2 ((get l0 k0).toNat)))) then
  chk ((↑k0 : Int) < (↑a1.length : Int)) <|
  (i2o n (get a1 k0) (get l2 ((get l0 k0).toNat))).bind fun v33 =>
  d6r (s0 ++ [v33.1]) fun c35 =>
  chk (c35.length * 16 ≤ top ∧ c35.length ≤ top) <|
  some (.nxt c35)
 else
  d6r (s0 ++ [(Ym.mk 0 1)]) fun c41 =>
  chk (c41.length * 16 ≤ top ∧ c41.length ≤ top) <|
  some (.nxt c41)
def d7y (t0 : (List Ym)) : Option ((List Ym)) :=
 some t0
def d5A (n : Nat) (a1 : (List Int)) (l0 : (List Int)) (l2 : (List Int)) : Option ((List Ym)) :=
 chk (l0.length ≤ 9223372036854775807) <|
 YN (Zi (d5Z n l0 l2 a1) l0.length []) (d7y)
def d6G (n : Nat) (a0 : Yn) (a1 : YH) (k0 : Nat) (s0 : (List Int) × (List Int)) : Option (Ctl ((List Ym) × (List Ym)) ((List Int) × (List Int)) ((List Int) × (List Int))) :=
 (d6e n ((get a0.rules k0).graph) 0 0).bind fun v23 =>
 chk (0 ≤ v23 ∧ v23 < (↑(((get a0.rules k0).graph.nodes).length) : Int)) <|
 d6r (s0.2 ++ [(get ((get a0.rules k0).graph.nodes) v23.toNat).type]) fun c27 =>
 chk (c27.length * 8 ≤ top ∧ c27.length ≤ top) <|
 chk (0 ≤ (get ((get a0.rules k0).graph.nodes) v23.toNat).type ∧ (get ((get a0.rules k0).graph.nodes) v23.toNat).type < (↑s0.1.length : Int)) <|
 chk ((↑k0 : Int) < (↑a1.rules.length : Int)) <|
 d6r (s0.1.set (((get ((get a0.rules k0).graph.nodes) v23.toNat).type).toNat) (wr .i64 ((get s0.1 (((get ((get a0.rules k0).graph.nodes) v23.toNat).type).toNat)) + (get a1.rules k0)))) fun c39 =>
 some (.nxt (c39, c27))
def d6I (a0 : Yn) (a1 : YH) (k1 : Nat) (s1 : (List Int) × (List Int)) : Option (Ctl ((List Ym) × (List Ym)) ((List Int) × (List Int)) ((List Int) × (List Int))) :=
 chk (0 < (↑(((get a0.Yy k1).graph.nodes).length) : Int)) <|
 d6r (s1.2 ++ [(get ((get a0.Yy k1).graph.nodes) 0).type]) fun c61 =>
 chk (c61.length * 8 ≤ top ∧ c61.length ≤ top) <|
 chk (0 ≤ (get ((get a0.Yy k1).graph.nodes) 0).type ∧ (get ((get a0.Yy k1).graph.nodes) 0).type < (↑s1.1.length : Int)) <|
 chk ((↑k1 : Int) < (↑a1.Yy.length : Int)) <|
 d6r (s1.1.set (((get ((get a0.Yy k1).graph.nodes) 0).type).toNat) (wr .i64 ((get s1.1 (((get ((get a0.Yy k1).graph.nodes) 0).type).toNat)) + (get a1.Yy k1)))) fun c73 =>
 some (.nxt (c73, c61))
def d6J (n : Nat) (a1 : YH) (t0 : (List Int) × (List Int)) (t1 : (List Int) × (List Int)) : Option ((List Ym) × (List Ym)) :=
 (d5A n a1.rules t0.2 t1.1).bind fun v76 =>
 (d5A n a1.Yy t1.2 t1.1).bind fun v77 =>
 some (v76, v77)
def d6H (n : Nat) (a0 : Yn) (a1 : YH) (t0 : (List Int) × (List Int)) : Option ((List Ym) × (List Ym)) :=
 YN (Zi (d6I a0 a1) a0.Yy.length (t0.1, [])) (d6J n a1 t0)
def d7p (n : Nat) (a0 : Yn) (a1 : YH) : Option ((List Ym) × (List Ym)) :=
 chk (a0.hierarchy.types.length * 8 ≤ top ∧ a0.hierarchy.types.length ≤ top) <|
 YN (Zi (d6G n a0 a1) a0.rules.length ((List.replicate a0.hierarchy.types.length (default : Int)), [])) (d6H n a0 a1)
def d9w (n : Nat) (a0 : Ym) (a1 : Int) : Option (Yg) :=
 bif (bif (bif (bif (decide (a0.num < (-1152921504606846976))) then true else (decide (1152921504606846976 < a0.num))) then true else (decide (a0.den < 1))) then true else (decide (1152921504606846976 < a0.den))) then
  some (Yg.mk 3 a1)
 else
  (d6F a0.num).bind fun v1 =>
  (d8m n v1 (wr .u64 a0.den)).bind fun v2 =>
  bif (!decide (v2 = 1)) then
   some (Yg.mk 5 a1)
  else
   some (Yg.mk 0 0)
def i2r (n : Nat) (a0 : Ym) (a1 : Ym) : Option (Yg) :=
 (d9w n a0 (-1)).bind fun v1 =>
 bif (!decide (v1.code = 0)) then
  some v1
 else
  (d9w n a1 (-2)).bind fun v2 =>
  some v2
def d6M (a0 : Int) (a1 : Int) : Option (Int × Int) :=
 some ((wr .u64 ((wr .u64 ((wr .u64 ((Int.fdiv a0 (2 ^ (min 32 64))) * (Int.fdiv a1 (2 ^ (min 32 64))))) + (Int.fdiv (wr .u64 ((wr .u64 ((Int.fdiv a0 (2 ^ (min 32 64))) * (d1G .and .u64 a1 4294967295))) + (Int.fdiv (wr .u64 ((d1G .and .u64 a0 4294967295) * (d1G .and .u64 a1 4294967295))) (2 ^ (min 32 64))))) (2 ^ (min 32 64))))) + (Int.fdiv (wr .u64 ((d1G .and .u64 (wr .u64 ((wr .u64 ((Int.fdiv a0 (2 ^ (min 32 64))) * (d1G .and .u64 a1 4294967295))) + (Int.fdiv (wr .u64 ((d1G .and .u64 a0 4294967295) * (d1G .and .u64 a1 4294967295))) (2 ^ (min 32 64))))) 4294967295) + (wr .u64 ((d1G .and .u64 a0 4294967295) * (Int.fdiv a1 (2 ^ (min 32 64))))))) (2 ^ (min 32 64))))), (wr .u64 (a0 * a1)))
def d6V (a0 : Int) (a1 : Int) : Option (Int × Bool) :=
 (d6M a0 a1).bind fun v1 =>
 some (v1.2, (bif (decide (v1.1 = 0)) then (decide (v1.2 ≤ 1152921504606846976)) else false))
def i2s (n : Nat) (a0 : Ym) (a1 : Ym) : Option (Ym × Yg) :=
 (d6F a0.num).bind fun v1 =>
 (d6F a1.num).bind fun v2 =>
 (d8m n v1 (wr .u64 a1.den)).bind fun v3 =>
 (d8m n v2 (wr .u64 a0.den)).bind fun v4 =>
 chk (v3 ≠ 0 ∧ InK .u64 (Int.tdiv v1 v3)) <|
 chk (v4 ≠ 0 ∧ InK .u64 (Int.tdiv v2 v4)) <|
 (d6V (Int.tdiv v1 v3) (Int.tdiv v2 v4)).bind fun v9 =>
 chk (InK .u64 (Int.tdiv (wr .u64 a0.den) v4)) <|
 chk (InK .u64 (Int.tdiv (wr .u64 a1.den) v3)) <|
 (d6V (Int.tdiv (wr .u64 a0.den) v4) (Int.tdiv (wr .u64 a1.den) v3)).bind fun v12 =>
 bif (bif (!v9.2) then true else (!v12.2)) then
  some ((Ym.mk 0 0), (Yg.mk 18 0))
 else
  (i4V (bif (!decide ((decide (a0.num < 0)) = (decide (a1.num < 0)))) then (decide (0 < v9.1)) else false) v9.1 v12.1).bind fun v13 =>
  some (v13.1, v13.2)
def i5i (n : Nat) (a0 : Ym) (a1 : Ym) : Option (Ym × Yg) :=
 (i2r n a0 a1).bind fun v1 =>
 bif (!decide (v1.code = 0)) then
  some ((Ym.mk 0 0), v1)
 else
  (i2s n a0 a1).bind fun v2 =>
  some (v2.1, v2.2)
def d4a (self : (Yr) → ((List Ym)) → ((List Ym)) → (Int) → (Int) → Option (Bool × Int × Int)) (a0 : Yr) (d0m : (List Ym)) (d5B : (List Ym)) (k1 : Nat) (s1 : Int × Int) : Option (Ctl (Bool × Int × Int) (Int × Int) (Int × Int)) :=
 (self (get a0.kids k1) d0m d5B s1.1 s1.2).bind fun v7 =>
 bif (!v7.1) then
  some (.ret (false, v7.2.1, v7.2.2))
 else
  some (.nxt (v7.2.1, v7.2.2))
def d5G (t1 : Int × Int) : Option (Bool × Int × Int) :=
 some (true, t1.1, t1.2)
def d2a (self : (Yr) → ((List Ym)) → ((List Ym)) → (Int) → (Int) → Option (Bool × Int × Int)) (n : Nat) (i3R : Int) (p1t : Int) (a0 : Yr) (d0m : (List Ym)) (d5B : (List Ym)) (j0 : Int × Int) : Option (Bool × Int × Int) :=
 (i5i n (Ym.mk i3R p1t) (Ym.mk j0.1 j0.2)).bind fun v5 =>
 bif (!decide (v5.2.code = 0)) then
  some (false, v5.1.num, v5.1.den)
 else
  YN (Zi (d4a self a0 d0m d5B) a0.kids.length (v5.1.num, v5.1.den)) (d5G)
def d0j : Nat → (Yr) → ((List Ym)) → ((List Ym)) → (Int) → (Int) → Option (Bool × Int × Int)
 | 0, _, _, _, _, _ => none
 | n + 1, a0, d0m, d5B, i3R, p1t =>
  bif (decide (a0.rule < 0)) then
   chk (0 ≤ a0.lex ∧ a0.lex < (↑d0m.length : Int)) <|
   d2a (d0j n) n i3R p1t a0 d0m d5B ((get d0m a0.lex.toNat).num, (get d0m a0.lex.toNat).den)
  else
   chk (0 ≤ a0.rule ∧ a0.rule < (↑d5B.length : Int)) <|
   d2a (d0j n) n i3R p1t a0 d0m d5B ((get d5B a0.rule.toNat).num, (get d5B a0.rule.toNat).den)
def d5e (n : Nat) (a0 : (List Ym)) (a1 : (List Ym)) (a2 : Yr) : Option (Ym × Bool) :=
 (d0j n a2 a1 a0 1 1).bind fun v1 =>
 bif (!v1.1) then
  some ((Ym.mk 0 0), false)
 else
  some ((Ym.mk v1.2.1 v1.2.2), true)
def d2J (n : Nat) (a0 : Yn) (a1 : YH) (a2 : Yr) : Option (Ym × Yg) :=
 (d9v n a0 a1).bind fun v1 =>
 bif (!decide (v1.code = 0)) then
  some ((Ym.mk 0 0), v1)
 else
  (d7U n a0 a2).bind fun v2 =>
  bif (!decide (v2.code = 0)) then
   some ((Ym.mk 0 0), v2)
  else
   (d7p n a0 a1).bind fun v3 =>
   (d5e n v3.1 v3.2 a2).bind fun v4 =>
   bif (!v4.2) then
    (d4L 18 0).bind fun v5 =>
    some ((Ym.mk 0 0), v5)
   else
    some (v4.1, (Yg.mk 0 0))
def d1f (n : Nat) : Option (Bool) :=
 (d5k n).bind fun v1 =>
 (i3f n v1 [(Yr.mk 0 0 [(Yr.mk (-1) 19 []), (Yr.mk 2 0 [(Yr.mk (-1) 9 [])])])]).bind fun v5 =>
 chk (d7C (!(bif (bif (!decide (v5.2.code = 0)) then true else (!decide ((↑v5.1.rules.length : Int) = 6))) then true else (!decide ((↑v5.1.Yy.length : Int) = 21)))) (0 < (↑v5.1.rules.length : Int))) <|
 chk (d7C (!(bif (bif (bif (!decide (v5.2.code = 0)) then true else (!decide ((↑v5.1.rules.length : Int) = 6))) then true else (!decide ((↑v5.1.Yy.length : Int) = 21))) then true else (!decide ((get v5.1.rules 0) = 1)))) (19 < (↑v5.1.Yy.length : Int))) <|
 chk (d7C (!(bif (bif (bif (bif (!decide (v5.2.code = 0)) then true else (!decide ((↑v5.1.rules.length : Int) = 6))) then true else (!decide ((↑v5.1.Yy.length : Int) = 21))) then true else (!decide ((get v5.1.rules 0) = 1))) then true else (!decide ((get v5.1.Yy 19) = 1)))) (0 < (↑v5.1.Yy.length : Int))) <|
 bif (bif (bif (bif (bif (bif (!decide (v5.2.code = 0)) then true else (!decide ((↑v5.1.rules.length : Int) = 6))) then true else (!decide ((↑v5.1.Yy.length : Int) = 21))) then true else (!decide ((get v5.1.rules 0) = 1))) then true else (!decide ((get v5.1.Yy 19) = 1))) then true else (!decide ((get v5.1.Yy 0) = 0))) then
  some false
 else
  (d2J n v1 v5.1 (Yr.mk 0 0 [(Yr.mk (-1) 19 []), (Yr.mk 2 0 [(Yr.mk (-1) 9 [])])])).bind fun v12 =>
  some (bif (decide (v12.2.code = 0)) then (decide (v12.1.num = 1) && (decide (v12.1.den = 1))) else false)
def d2g (self : (Yn) → (Yr) → (Int) → (Int) → (Int) → (Int) → Option (Yg × Int × Int)) (a0 : Yn) (a1 : Yr) (a2 : Int) (j1 : Int) (k3 : Nat) (s3 : Int × Int) : Option (Ctl (Yg × Int × Int) (Int × Int) (Int × Int)) :=
 (self a0 (get a1.kids k3) (wr .i64 (a2 + 1)) j1 s3.1 s3.2).bind fun v4 =>
 bif (!decide (v4.1.code = 0)) then
  some (.ret (v4.1, v4.2.1, v4.2.2))
 else
  some (.nxt (v4.2.1, v4.2.2))
def d3w (t3 : Int × Int) : Option (Yg × Int × Int) :=
 some ((Yg.mk 0 0), t3.1, t3.2)
def d0S (self : (Yn) → (Yr) → (Int) → (Int) → (Int) → (Int) → Option (Yg × Int × Int)) (a0 : Yn) (a1 : Yr) (a2 : Int) (j1 : Int) (d0m : Int) (j2 : Int) : Option (Yg × Int × Int) :=
 YN (Zi (d2g self a0 a1 a2 j1) a1.kids.length ((wr .i64 (d0m + 1)), j2)) (d3w)
def d0o (self : (Yn) → (Yr) → (Int) → (Int) → (Int) → (Int) → Option (Yg × Int × Int)) (d0m : Int) (d5B : Int) (j0 : Int) (a0 : Yn) (a1 : Yr) (a2 : Int) (j1 : Int) : Option (Yg × Int × Int) :=
 bif (decide (3 < j1)) then
  some ((Yg.mk 14 d0m), (wr .i64 (d0m + 1)), d5B)
 else
  bif (decide (j0 = 0)) then
   d0S self a0 a1 a2 j1 d0m (wr .i64 (d5B + 1))
  else
   d0S self a0 a1 a2 j1 d0m d5B
def d0R (self : (Yn) → (Yr) → (Int) → (Int) → (Int) → (Int) → Option (Yg × Int × Int)) (a1 : Yr) (d0m : Int) (d5B : Int) (a0 : Yn) (a2 : Int) (a3 : Int) (j0 : Int) : Option (Yg × Int × Int) :=
 bif (!decide ((↑a1.kids.length : Int) = j0)) then
  some ((Yg.mk 9 d0m), (wr .i64 (d0m + 1)), d5B)
 else
  bif (decide (j0 = 1)) then
   d0o self d0m d5B j0 a0 a1 a2 (wr .i64 (a3 + 1))
  else
   d0o self d0m d5B j0 a0 a1 a2 0
def Zf : Nat → (Yn) → (Yr) → (Int) → (Int) → (Int) → (Int) → Option (Yg × Int × Int)
 | 0, _, _, _, _, _, _ => none
 | n + 1, a0, a1, a2, a3, d0m, d5B =>
  bif (bif (decide (200 < (wr .i64 (d0m + 1)))) then true else (decide (48 < a2))) then
   some ((Yg.mk 1 d0m), (wr .i64 (d0m + 1)), d5B)
  else
   bif (bif (bif (decide (a1.rule < (-1))) then true else (decide ((↑a0.rules.length : Int) ≤ a1.rule))) then true else (bif (decide (a1.rule = (-1))) then (bif (decide (a1.lex < 0)) then true else (decide ((↑a0.Yy.length : Int) ≤ a1.lex))) else false)) then
    some ((Yg.mk 3 d0m), (wr .i64 (d0m + 1)), d5B)
   else
    bif (bif (decide (0 ≤ a1.rule)) then (!decide (a1.lex = 0)) else false) then
     some ((Yg.mk 5 d0m), (wr .i64 (d0m + 1)), d5B)
    else
     bif (decide (0 ≤ a1.rule)) then
      chk (0 ≤ a1.rule ∧ a1.rule < (↑a0.rules.length : Int)) <|
      d0R (Zf n) a1 d0m d5B a0 a2 a3 ((get a0.rules a1.rule.toNat).kids)
     else
      d0R (Zf n) a1 d0m d5B a0 a2 a3 0
def d1w (n : Nat) (a0 : Yn) (a1 : Yr) : Option (Yg) :=
 (Zf n a0 a1 1 0 0 0).bind fun v1 =>
 bif (bif (decide (v1.1.code = 0)) then (decide (12 < v1.2.2)) else false) then
  some (Yg.mk 2 (-2))
 else
  some v1.1
def ZH (s0 : Int) (j2 : Int) : Option (Ctl (Yg) (Int) (Unit)) :=
 bif (bif (decide (j2 < 0)) then true else (decide (1000000 < j2))) then
  some (.ret (Yg.mk 3 s0))
 else
  some (.nxt (wr .i64 (s0 + 1)))
def d0a (a1 : YH) (s0 : Int) : Option (Ctl (Yg) (Int) (Unit)) :=
 bif (decide (s0 < (wr .i64 ((↑a1.rules.length : Int) + (↑a1.Yy.length : Int))))) then
  bif (decide (s0 < (↑a1.rules.length : Int))) then
   chk (0 ≤ s0 ∧ s0 < (↑a1.rules.length : Int)) <|
   ZH s0 (get a1.rules s0.toNat)
  else
   chk (0 ≤ (wr .i64 (s0 - (↑a1.rules.length : Int))) ∧ (wr .i64 (s0 - (↑a1.rules.length : Int))) < (↑a1.Yy.length : Int)) <|
   ZH s0 (get a1.Yy ((wr .i64 (s0 - (↑a1.rules.length : Int))).toNat))
 else
  some (.brk ())
def d1o (t0 : Unit) : Option (Yg) :=
 some (Yg.mk 0 0)
def d0I (n : Nat) (a0 : Yn) (a1 : YH) : Option (Yg) :=
 (d0E n a0).bind fun v1 =>
 bif (!decide (v1.code = 0)) then
  some v1
 else
  bif (bif (!decide ((↑a1.rules.length : Int) = (↑a0.rules.length : Int))) then true else (!decide ((↑a1.Yy.length : Int) = (↑a0.Yy.length : Int)))) then
   some (Yg.mk 9 (-2))
  else
   YN (d2e (d0a a1) n 0) (d1o)
def ZB (a0 : Yn) (a1 : Int) (a2 : Int) : Option (Int) :=
 bif (decide (a1 < 0)) then
  chk (0 ≤ a2 ∧ a2 < (↑a0.Yy.length : Int)) <|
  chk (0 < (↑(((get a0.Yy a2.toNat).graph.nodes).length) : Int)) <|
  some ((get ((get a0.Yy a2.toNat).graph.nodes) 0).type)
 else
  chk (0 ≤ a1 ∧ a1 < (↑a0.rules.length : Int)) <|
  (d0D ((get a0.rules a1.toNat).graph) 0 0).bind fun v6 =>
  chk (0 ≤ v6 ∧ v6 < (↑(((get a0.rules a1.toNat).graph.nodes).length) : Int)) <|
  some ((get ((get a0.rules a1.toNat).graph.nodes) v6.toNat).type)
def Zc (a0 : Int) : Option (Int) :=
 bif (decide (a0 < 0)) then
  some (wr .u64 (0 - (wr .u64 a0)))
 else
  some (wr .u64 a0)
def ZI (a0 : Yf) : Option (Yf) :=
 chk (InK .u64 (Int.tdiv a0.hi 2)) <|
 chk (InK .u64 (Int.tdiv a0.lo 2)) <|
 some (Yf.mk (Int.tdiv a0.hi 2) (wr .u64 ((Int.tdiv a0.lo 2) + (wr .u64 ((Int.tmod a0.hi 2) * 2 ^ (min 63 64))))))
def Zs (a0 : Yf) (a1 : Yf) : Option (Bool) :=
 some (bif (decide (a0.hi < a1.hi)) then true else (bif (decide (a0.hi = a1.hi)) then (decide (a0.lo < a1.lo)) else false))
def ZA (a0 : Yf) (a1 : Yf) : Option (Yf) :=
 bif (decide (a0.lo < a1.lo)) then
  some (Yf.mk (wr .u64 ((wr .u64 (a0.hi - a1.hi)) - 1)) (wr .u64 (a0.lo - a1.lo)))
 else
  some (Yf.mk (wr .u64 (a0.hi - a1.hi)) (wr .u64 (a0.lo - a1.lo)))
def d0p (a0 : Yf) (a1 : Yf) : Option (Yf) :=
 bif (decide ((wr .u64 (a0.lo + a1.lo)) < a0.lo)) then
  some (Yf.mk (wr .u64 ((wr .u64 (a0.hi + a1.hi)) + 1)) (wr .u64 (a0.lo + a1.lo)))
 else
  some (Yf.mk (wr .u64 (a0.hi + a1.hi)) (wr .u64 (a0.lo + a1.lo)))
def ZD (a0 : Yf) : Option (Yf) :=
 (d0p a0 a0).bind fun v1 =>
 some v1
def d1a (s0 : Int × Int × Int × Int × Int) : Option (Ctl (Yf) (Int × Int × Int × Int × Int) (Int × Int × Int × Int × Int)) :=
 bif (bif (decide ((Int.tmod s0.2.1 2) = 0)) then (decide ((Int.tmod s0.2.2.2.1 2) = 0)) else false) then
  (ZI (Yf.mk s0.1 s0.2.1)).bind fun v3 =>
  (ZI (Yf.mk s0.2.2.1 s0.2.2.2.1)).bind fun v4 =>
  some (.nxt (v3.hi, v3.lo, v4.hi, v4.lo, (wr .i64 (s0.2.2.2.2 + 1))))
 else
  some (.brk (s0.1, s0.2.1, s0.2.2.1, s0.2.2.2.1, s0.2.2.2.2))
def d1b (s1 : Int × Int) : Option (Ctl (Yf) (Int × Int) (Int × Int)) :=
 bif (decide ((Int.tmod s1.2 2) = 0)) then
  (ZI (Yf.mk s1.1 s1.2)).bind fun v6 =>
  some (.nxt (v6.hi, v6.lo))
 else
  some (.brk (s1.1, s1.2))
def d1c (s4 : Int × Int) : Option (Ctl (Ctl (Yf) (Int × Int × Int × Int) (Int × Int)) (Int × Int) (Int × Int)) :=
 bif (decide ((Int.tmod s4.2 2) = 0)) then
  (ZI (Yf.mk s4.1 s4.2)).bind fun v13 =>
  some (.nxt (v13.hi, v13.lo))
 else
  some (.brk (s4.1, s4.2))
def d2p (s2 : Int × Int × Int × Int) (t4 : Int × Int) : Option (Ctl (Yf) (Int × Int × Int × Int) (Int × Int)) :=
 (Zs (Yf.mk t4.1 t4.2) (Yf.mk s2.1 s2.2.1)).bind fun v14 =>
 bif v14 then
  (ZA (Yf.mk s2.1 s2.2.1) (Yf.mk t4.1 t4.2)).bind fun v15 =>
  some (.nxt (t4.1, t4.2, v15.hi, v15.lo))
 else
  (ZA (Yf.mk t4.1 t4.2) (Yf.mk s2.1 s2.2.1)).bind fun v16 =>
  some (.nxt (s2.1, s2.2.1, v16.hi, v16.lo))
def d1d (n : Nat) (s2 : Int × Int × Int × Int) : Option (Ctl (Yf) (Int × Int × Int × Int) (Int × Int)) :=
 bif (!(decide (s2.2.2.1 = 0) && (decide (s2.2.2.2 = 0)))) then
  YN (d2e (d1c) n (s2.2.2.1, s2.2.2.2)) (d2p s2)
 else
  some (.brk (s2.1, s2.2.1))
def d2t (t0 : Int × Int × Int × Int × Int) (s5 : Int × Int × Int) : Option (Ctl (Yf) (Int × Int × Int) (Int × Int)) :=
 bif (decide (s5.2.2 < t0.2.2.2.2)) then
  (ZD (Yf.mk s5.1 s5.2.1)).bind fun v18 =>
  some (.nxt (v18.hi, v18.lo, (wr .i64 (s5.2.2 + 1))))
 else
  some (.brk (s5.1, s5.2.1))
def d3Q (t5 : Int × Int) : Option (Yf) :=
 some (Yf.mk t5.1 t5.2)
def d2s (n : Nat) (t0 : Int × Int × Int × Int × Int) (t2 : Int × Int) : Option (Yf) :=
 YN (d2e (d2t t0) n (t2.1, t2.2, 0)) (d3Q)
def d2r (n : Nat) (t0 : Int × Int × Int × Int × Int) (t1 : Int × Int) : Option (Yf) :=
 YN (d2e (d1d n) n (t1.1, t1.2, t0.2.2.1, t0.2.2.2.1)) (d2s n t0)
def d2q (n : Nat) (t0 : Int × Int × Int × Int × Int) : Option (Yf) :=
 YN (d2e (d1b) n (t0.1, t0.2.1)) (d2r n t0)
def d0q (n : Nat) (a0 : Yf) (a1 : Yf) : Option (Yf) :=
 bif (decide (a0.hi = 0) && (decide (a0.lo = 0))) then
  some a1
 else
  bif (decide (a1.hi = 0) && (decide (a1.lo = 0))) then
   some a0
  else
   YN (d2e (d1a) n (a0.hi, a0.lo, a1.hi, a1.lo, 0)) (d2q n)
def d0g (s0 : Int × Int × Int × Int × Int) (v6 : Yf) (a1 : Yf) (j2 : Int) : Option (Ctl (Yf) (Int × Int × Int × Int × Int) (Int × Int)) :=
 (ZD (Yf.mk s0.1 s0.2.1)).bind fun v9 =>
 (Zs (Yf.mk v6.hi (wr .u64 (v6.lo + j2))) a1).bind fun v10 =>
 bif (!v10) then
  (ZA (Yf.mk v6.hi (wr .u64 (v6.lo + j2))) a1).bind fun v11 =>
  some (.nxt (v9.hi, (wr .u64 (v9.lo + 1)), v11.hi, v11.lo, (wr .i64 (s0.2.2.2.2 - 1))))
 else
  some (.nxt (v9.hi, v9.lo, v6.hi, (wr .u64 (v6.lo + j2)), (wr .i64 (s0.2.2.2.2 - 1))))
def d0f (a1 : Yf) (a0 : Yf) (s0 : Int × Int × Int × Int × Int) : Option (Ctl (Yf) (Int × Int × Int × Int × Int) (Int × Int)) :=
 bif (decide (0 ≤ s0.2.2.2.2)) then
  (ZD (Yf.mk s0.2.2.1 s0.2.2.2.1)).bind fun v6 =>
  bif (decide (64 ≤ s0.2.2.2.2)) then
   chk (0 ≤ (wr .i64 (s0.2.2.2.2 - 64))) <|
   d0g s0 v6 a1 (Int.tmod (Int.fdiv a0.hi (2 ^ (min ((wr .i64 (s0.2.2.2.2 - 64)).toNat) 64))) 2)
  else
   chk (0 ≤ s0.2.2.2.2) <|
   d0g s0 v6 a1 (Int.tmod (Int.fdiv a0.lo (2 ^ (min s0.2.2.2.2.toNat 64))) 2)
 else
  some (.brk (s0.1, s0.2.1))
def d3R (t0 : Int × Int) : Option (Yf) :=
 some (Yf.mk t0.1 t0.2)
def d0T (n : Nat) (a0 : Yf) (a1 : Yf) : Option (Yf) :=
 YN (d2e (d0f a1 a0) n (0, 0, 0, 0, 127)) (d3R)
def Zo (n : Nat) (a0 : Bool) (a1 : Yf) (a2 : Yf) : Option (Ym × Yg) :=
 (d0q n a1 a2).bind fun v1 =>
 (d0T n a1 v1).bind fun v2 =>
 (d0T n a2 v1).bind fun v3 =>
 (Zs (Yf.mk 0 1152921504606846976) v2).bind fun v4 =>
 (gd (!v4) (Zs (Yf.mk 0 1152921504606846976) v3) default).bind fun v5 =>
 bif (bif v4 then true else v5) then
  some ((Ym.mk 0 0), (Yg.mk 18 0))
 else
  bif a0 then
   some ((Ym.mk (wr .i64 (0 - (wr .i64 v2.lo))) (wr .i64 v3.lo)), (Yg.mk 0 0))
  else
   some ((Ym.mk (wr .i64 v2.lo) (wr .i64 v3.lo)), (Yg.mk 0 0))
def d1V (n : Nat) (a0 : Int) (a1 : Int) : Option (Ym × Yg) :=
 bif (decide (a1 = 0)) then
  some ((Ym.mk 0 0), (Yg.mk 19 (-2)))
 else
  (Zc a0).bind fun v1 =>
  (Zc a1).bind fun v2 =>
  (Zo n (!decide ((decide (a0 < 0)) = (decide (a1 < 0)))) (Yf.mk 0 v1) (Yf.mk 0 v2)).bind fun v3 =>
  some (v3.1, v3.2)
def d1g (a0 : Yn) (v1 : Int) (a1 : YH) (s0 : Int × Int) : Option (Ctl (Ym) (Int × Int) (Int)) :=
 bif (decide (s0.2 < (↑a0.rules.length : Int))) then
  (ZB a0 s0.2 0).bind fun v4 =>
  bif (decide (v4 = v1)) then
   chk (0 ≤ s0.2 ∧ s0.2 < (↑a1.rules.length : Int)) <|
   some (.nxt ((wr .i64 (s0.1 + (get a1.rules s0.2.toNat))), (wr .i64 (s0.2 + 1))))
  else
   some (.nxt (s0.1, (wr .i64 (s0.2 + 1))))
 else
  some (.brk s0.1)
def d2u (a0 : Yn) (v1 : Int) (a1 : YH) (s1 : Int × Int) : Option (Ctl (Ym) (Int × Int) (Int)) :=
 bif (decide (s1.2 < (↑a0.Yy.length : Int))) then
  (ZB a0 (-1) s1.2).bind fun v9 =>
  bif (decide (v9 = v1)) then
   chk (0 ≤ s1.2 ∧ s1.2 < (↑a1.Yy.length : Int)) <|
   some (.nxt ((wr .i64 (s1.1 + (get a1.Yy s1.2.toNat))), (wr .i64 (s1.2 + 1))))
  else
   some (.nxt (s1.1, (wr .i64 (s1.2 + 1))))
 else
  some (.brk s1.1)
def d0i (n : Nat) (t1 : Int) (j2 : Int) : Option (Ym) :=
 bif (decide (t1 = 0)) then
  some (Ym.mk 0 1)
 else
  (d1V n j2 t1).bind fun v16 =>
  some v16.1
def d2v (n : Nat) (a2 : Int) (a1 : YH) (a3 : Int) (t1 : Int) : Option (Ym) :=
 bif (decide (0 ≤ a2)) then
  chk (0 ≤ a2 ∧ a2 < (↑a1.rules.length : Int)) <|
  d0i n t1 (get a1.rules a2.toNat)
 else
  chk (0 ≤ a3 ∧ a3 < (↑a1.Yy.length : Int)) <|
  d0i n t1 (get a1.Yy a3.toNat)
def d1h (n : Nat) (a0 : Yn) (v1 : Int) (a1 : YH) (a2 : Int) (a3 : Int) (t0 : Int) : Option (Ym) :=
 YN (d2e (d2u a0 v1 a1) n (t0, 0)) (d2v n a2 a1 a3)
def Zq (n : Nat) (a0 : Yn) (a1 : YH) (a2 : Int) (a3 : Int) : Option (Ym) :=
 (ZB a0 a2 a3).bind fun v1 =>
 YN (d2e (d1g a0 v1 a1) n (0, 0)) (d1h n a0 v1 a1 a2 a3)
def d0z (n : Nat) (a0 : Ym) (a1 : Int) : Option (Yg) :=
 bif (bif (bif (bif (decide (a0.num < (-1152921504606846976))) then true else (decide (1152921504606846976 < a0.num))) then true else (decide (a0.den < 1))) then true else (decide (1152921504606846976 < a0.den))) then
  some (Yg.mk 3 a1)
 else
  (Zc a0.num).bind fun v1 =>
  (d0q n (Yf.mk 0 v1) (Yf.mk 0 (wr .u64 a0.den))).bind fun v2 =>
  bif (!(decide (v2.hi = 0) && (decide (v2.lo = 1)))) then
   some (Yg.mk 5 a1)
  else
   some (Yg.mk 0 0)
def d2W (n : Nat) (a0 : Ym) (a1 : Ym) : Option (Yg) :=
 (d0z n a0 (-1)).bind fun v1 =>
 bif (!decide (v1.code = 0)) then
  some v1
 else
  (d0z n a1 (-2)).bind fun v2 =>
  some v2
def d0h (s0 : Int × Int × Int × Int × Int) (j2 : Int × Int) : Option (Ctl (Yf) (Int × Int × Int × Int × Int) (Int × Int)) :=
 (ZD (Yf.mk s0.2.2.1 s0.2.2.2.1)).bind fun v5 =>
 chk (InK .u64 (Int.tdiv s0.2.2.2.2 2)) <|
 some (.nxt (j2.1, j2.2, v5.hi, v5.lo, (Int.tdiv s0.2.2.2.2 2)))
def d1e (s0 : Int × Int × Int × Int × Int) : Option (Ctl (Yf) (Int × Int × Int × Int × Int) (Int × Int)) :=
 bif (decide (0 < s0.2.2.2.2)) then
  bif (decide ((Int.tmod s0.2.2.2.2 2) = 1)) then
   (d0p (Yf.mk s0.1 s0.2.1) (Yf.mk s0.2.2.1 s0.2.2.2.1)).bind fun v4 =>
   d0h s0 (v4.hi, v4.lo)
  else
   d0h s0 (s0.1, s0.2.1)
 else
  some (.brk (s0.1, s0.2.1))
def d3S (t0 : Int × Int) : Option (Yf) :=
 some (Yf.mk t0.1 t0.2)
def YZ (n : Nat) (a0 : Int) (a1 : Int) : Option (Yf) :=
 YN (d2e (d1e) n (0, 0, 0, a0, a1)) (d3S)
def d3x (n : Nat) (a0 : Ym) (a1 : Ym) : Option (Ym × Yg) :=
 (Zc a0.num).bind fun v1 =>
 (YZ n v1 (wr .u64 a1.den)).bind fun v2 =>
 (Zc a1.num).bind fun v3 =>
 (YZ n v3 (wr .u64 a0.den)).bind fun v4 =>
 (YZ n (wr .u64 a0.den) (wr .u64 a1.den)).bind fun v5 =>
 bif (decide ((decide (a0.num < 0)) = (decide (a1.num < 0)))) then
  (d0p v2 v4).bind fun v6 =>
  (Zo n (decide (a0.num < 0)) v6 v5).bind fun v7 =>
  some (v7.1, v7.2)
 else
  (Zs v2 v4).bind fun v8 =>
  bif v8 then
   (ZA v4 v2).bind fun v9 =>
   (Zo n (decide (a1.num < 0)) v9 v5).bind fun v10 =>
   some (v10.1, v10.2)
  else
   bif (decide (v2.hi = v4.hi) && (decide (v2.lo = v4.lo))) then
    some ((Ym.mk 0 1), (Yg.mk 0 0))
   else
    (ZA v2 v4).bind fun v11 =>
    (Zo n (decide (a0.num < 0)) v11 v5).bind fun v12 =>
    some (v12.1, v12.2)
def d2A (n : Nat) (a0 : Int) (a1 : Ym) (a2 : Ym) : Option (Ym × Yg) :=
 (d2W n a1 a2).bind fun v1 =>
 bif (!decide (v1.code = 0)) then
  some ((Ym.mk 0 0), v1)
 else
  bif (decide (a0 = 0)) then
   (d3x n a1 a2).bind fun v2 =>
   some (v2.1, v2.2)
  else
   bif (decide (a0 = 1)) then
    (d3x n a1 (Ym.mk (wr .i64 (0 - a2.num)) a2.den)).bind fun v3 =>
    some (v3.1, v3.2)
   else
    bif (decide (a0 = 2)) then
     (Zc a1.num).bind fun v4 =>
     (Zc a2.num).bind fun v5 =>
     (YZ n v4 v5).bind fun v6 =>
     (YZ n (wr .u64 a1.den) (wr .u64 a2.den)).bind fun v7 =>
     (Zo n (!decide ((decide (a1.num < 0)) = (decide (a2.num < 0)))) v6 v7).bind fun v8 =>
     some (v8.1, v8.2)
    else
     bif (decide (a2.num = 0)) then
      some ((Ym.mk 0 0), (Yg.mk 19 (-2)))
     else
      (Zc a1.num).bind fun v9 =>
      (YZ n v9 (wr .u64 a2.den)).bind fun v10 =>
      (Zc a2.num).bind fun v11 =>
      (YZ n (wr .u64 a1.den) v11).bind fun v12 =>
      (Zo n (!decide ((decide (a1.num < 0)) = (decide (a2.num < 0)))) v10 v12).bind fun v13 =>
      some (v13.1, v13.2)
def d1W (self : (Yn) → (YH) → (Yr) → (Ym) → Option (Ym × Bool)) (a2 : Yr) (a0 : Yn) (a1 : YH) (s0 : Int × Int × Int) : Option (Ctl (Ym × Bool) (Int × Int × Int) (Int × Int)) :=
 bif (decide (s0.2.2 < (↑a2.kids.length : Int))) then
  chk (0 ≤ s0.2.2 ∧ s0.2.2 < (↑a2.kids.length : Int)) <|
  (self a0 a1 (get a2.kids s0.2.2.toNat) (Ym.mk s0.1 s0.2.1)).bind fun v7 =>
  bif (!v7.2) then
   some (.ret ((Ym.mk 0 0), false))
  else
   some (.nxt (v7.1.num, v7.1.den, (wr .i64 (s0.2.2 + 1))))
 else
  some (.brk (s0.1, s0.2.1))
def d3m (t0 : Int × Int) : Option (Ym × Bool) :=
 some ((Ym.mk t0.1 t0.2), true)
def Zp : Nat → (Yn) → (YH) → (Yr) → (Ym) → Option (Ym × Bool)
 | 0, _, _, _, _ => none
 | n + 1, a0, a1, a2, a3 =>
  (Zq n a0 a1 a2.rule a2.lex).bind fun v1 =>
  (d2A n 2 a3 v1).bind fun v2 =>
  bif (!decide (v2.2.code = 0)) then
   some ((Ym.mk 0 0), false)
  else
   YN (d2e (d1W (Zp n) a2 a0 a1) n (v2.1.num, v2.1.den, 0)) (d3m)
def YR (n : Nat) (v2 : Ym × Yg) (a0 : Yn) (a1 : YH) (a2 : Yr) (j0 : Int × Int) : Option (Bool) :=
 bif (!decide (j0.1 = 0)) then
  some (bif (decide (v2.2.code = j0.1) && (decide (v2.2.index = j0.2))) then (decide (v2.1.num = 0) && (decide (v2.1.den = 0))) else false)
 else
  (Zp n a0 a1 a2 (Ym.mk 1 1)).bind fun v5 =>
  bif (!v5.2) then
   some (bif (decide (v2.2.code = 18) && (decide (v2.2.index = 0))) then (decide (v2.1.num = 0) && (decide (v2.1.den = 0))) else false)
  else
   some (bif (decide (v2.2.code = 0)) then (decide (v2.1.num = v5.1.num) && (decide (v2.1.den = v5.1.den))) else false)
def Zw (n : Nat) (a0 : Yn) (a1 : YH) (a2 : Yr) : Option (Bool) :=
 (d1f n).bind fun v1 =>
 bif (!v1) then
  some false
 else
  (d2J n a0 a1 a2).bind fun v2 =>
  (d0I n a0 a1).bind fun v3 =>
  bif (decide (v3.code = 0)) then
   (d1w n a0 a2).bind fun v4 =>
   YR n v2 a0 a1 a2 (v4.code, v4.index)
  else
   YR n v2 a0 a1 a2 (v3.code, v3.index)
end Go.Proofs.YtgaeiccgdpnkkaaGreatDoor

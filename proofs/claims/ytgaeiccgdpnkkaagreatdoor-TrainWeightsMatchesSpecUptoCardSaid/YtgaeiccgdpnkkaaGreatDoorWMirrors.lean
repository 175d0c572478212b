import Derived.Test.YtgaeiccgdpnkkaaGreatDoorWHand
import Derived.Test.YtgaeiccgdpnkkaaGreatDoorWRowT
set_option linter.unusedVariables false
set_option linter.unusedSimpArgs false
namespace Go.Proofs.YtgaeiccgdpnkkaaGreatDoor
open Go Go.Am
def d1W (a0 : (List WT)) (s0 : (List Bool) × Int) (k2 : Nat) (s2 : (List Bool)) : Option (Ctl (Ctl (Bool) ((List Bool) × Int) ((List Bool))) ((List Bool)) ((List Bool))) :=
 chk (0 ≤ (get ((get a0 s0.2.toNat).parents) k2) ∧ (get ((get a0 s0.2.toNat).parents) k2) < (↑s2.length : Int)) <|
 d4y (s2.set ((get ((get a0 s0.2.toNat).parents) k2).toNat) true) fun c44 =>
 some (.nxt c44)
def d1X (s0 : (List Bool) × Int) (t2 : (List Bool)) : Option (Ctl (Bool) ((List Bool) × Int) ((List Bool))) :=
 some (.nxt (t2, (wr .i64 (s0.2 - 1))))
def d1V (a2 : Int) (a0 : (List WT)) (s0 : (List Bool) × Int) : Option (Ctl (Bool) ((List Bool) × Int) ((List Bool))) :=
 bif (decide (a2 < s0.2)) then
  chk (0 ≤ s0.2 ∧ s0.2 < (↑s0.1.length : Int)) <|
  bif (get s0.1 s0.2.toNat) then
   chk (s0.2 < (↑a0.length : Int)) <|
   Xx (XO (d1W a0 s0) (((get a0 s0.2.toNat).parents).length) s0.1) (d1X s0)
  else
   some (.nxt (s0.1, (wr .i64 (s0.2 - 1))))
 else
  some (.brk s0.1)
def d1Y (a2 : Int) (t0 : (List Bool)) : Option (Bool) :=
 chk (0 ≤ a2 ∧ a2 < (↑t0.length : Int)) <|
 some (get t0 a2.toNat)
def XJ (n : Nat) (a0 : (List WT)) (a1 : Int) (a2 : Int) : Option (Bool) :=
 chk (a0.length * 1 ≤ top ∧ a0.length ≤ top) <|
 chk (0 ≤ a1 ∧ a1 < (↑a0.length : Int)) <|
 d4y ((List.replicate a0.length (default : Bool)).set a1.toNat true) fun c8 =>
 Xx (d0v (d1V a2 a0) n (c8, a1)) (d1Y a2)
def YO (a0 : Bs) : Option (WK) :=
 some (WK.mk a0 [])
def XA (a0 : WK) (a1 : WK) : Option (WK) :=
 some (WK.mk [] [a0, a1])
def d0U (a1 : (List Int)) (a0 : (List Bs)) (k0 : Nat) (s0 : (List WT)) : Option (Ctl (WU) ((List WT)) ((List WT))) :=
 bif (decide (0 < (↑k0 : Int))) then
  chk ((↑k0 : Int) < (↑a1.length : Int)) <|
  d4y (s0 ++ [(WT.mk (get a0 k0) [(get a1 k0)])]) fun c14 =>
  chk (c14.length * 40 ≤ top ∧ c14.length ≤ top) <|
  some (.nxt c14)
 else
  chk ((s0.length + 1) * 40 ≤ top ∧ s0.length + 1 ≤ top) <|
  some (.nxt (s0 ++ [(WT.mk (get a0 k0) [])]))
def d0V (a2 : (List Xf)) (t0 : (List WT)) : Option (WU) :=
 some (WU.mk t0 a2)
def d1B (a0 : (List Bs)) (a1 : (List Int)) (a2 : (List Xf)) : Option (WU) :=
 Xx (XO (d0U a1 a0) a0.length []) (d0V a2)
def Xb (a0 : Int) : Option (WO) :=
 some (WO.mk 2 [] a0 (WK.mk [] []) [])
def Xq (a0 : WO) (a1 : WO) : Option (WO) :=
 some (WO.mk 4 [] 0 (WK.mk [] []) [a0, a1])
def Xh (a0 : WK) (a1 : WO) : Option (WO) :=
 some (WO.mk 3 [] 0 a0 [a1])
def d2w (a0 : Bool) : Option ((List WO)) :=
 (YO [101]).bind fun v1 =>
 (YO [116]).bind fun v2 =>
 (XA v1 v2).bind fun v3 =>
 (XA v3 v2).bind fun v4 =>
 (XA v1 v3).bind fun v5 =>
 (XA v3 v4).bind fun v6 =>
 (Xb 1).bind fun v7 =>
 (Xb 0).bind fun v8 =>
 (Xq v7 v8).bind fun v9 =>
 (Xh v3 v9).bind fun v10 =>
 (Xh v4 v10).bind fun v11 =>
 (Xb 1).bind fun v12 =>
 (Xb 0).bind fun v13 =>
 (Xq v12 v13).bind fun v14 =>
 (Xh v3 v14).bind fun v15 =>
 (Xh v6 v15).bind fun v16 =>
 (Xb 0).bind fun v17 =>
 (Xh v3 v17).bind fun v18 =>
 (Xb 1).bind fun v19 =>
 (Xb 3).bind fun v20 =>
 (Xb 1).bind fun v21 =>
 (Xq v20 v21).bind fun v22 =>
 (Xb 0).bind fun v23 =>
 (Xq v22 v23).bind fun v24 =>
 (Xh v1 v24).bind fun v25 =>
 (Xq v19 v25).bind fun v26 =>
 (Xh v1 v26).bind fun v27 =>
 (Xh v4 v27).bind fun v28 =>
 (Xh v5 v28).bind fun v29 =>
 (XA v2 v2).bind fun v30 =>
 (Xb 2).bind fun v31 =>
 (Xb 1).bind fun v32 =>
 (Xb 0).bind fun v33 =>
 (Xq v32 v33).bind fun v34 =>
 (Xq v31 v34).bind fun v35 =>
 (Xh v1 v35).bind fun v36 =>
 (Xh v3 v36).bind fun v37 =>
 (Xh v30 v37).bind fun v38 =>
 (XA v2 v2).bind fun v39 =>
 (XA v2 v39).bind fun v40 =>
 (Xb 2).bind fun v41 =>
 (Xb 3).bind fun v42 =>
 (Xb 0).bind fun v43 =>
 (Xq v42 v43).bind fun v44 =>
 (Xq v41 v44).bind fun v45 =>
 (Xb 1).bind fun v46 =>
 (Xb 0).bind fun v47 =>
 (Xq v46 v47).bind fun v48 =>
 (Xq v45 v48).bind fun v49 =>
 (Xh v3 v49).bind fun v50 =>
 (Xh v4 v50).bind fun v51 =>
 (Xh v40 v51).bind fun v52 =>
 (Xh v4 v52).bind fun v53 =>
 bif a0 then
  (Xb 0).bind fun v55 =>
  (Xb 1).bind fun v56 =>
  (Xq v55 v56).bind fun v57 =>
  (Xh v4 v57).bind fun v58 =>
  (Xh v3 v58).bind fun v59 =>
  (Xb 0).bind fun v60 =>
  (Xb 1).bind fun v61 =>
  (Xq v60 v61).bind fun v62 =>
  (Xh v6 v62).bind fun v63 =>
  (Xh v3 v63).bind fun v64 =>
  (Xb 2).bind fun v65 =>
  (Xb 2).bind fun v66 =>
  (Xb 1).bind fun v67 =>
  (Xq v66 v67).bind fun v68 =>
  (Xb 0).bind fun v69 =>
  (Xq v68 v69).bind fun v70 =>
  (Xh v1 v70).bind fun v71 =>
  (Xq v65 v71).bind fun v72 =>
  (Xh v1 v72).bind fun v73 =>
  (Xh v5 v73).bind fun v74 =>
  (Xh v4 v74).bind fun v75 =>
  some [v59, v64, v18, v75, v38, v53]
 else
  some [v11, v16, v18, v29, v38, v53]
def d1M (a0 : (List (List Int))) (k0 : Nat) (s2 : (List XL) × Int) : Option (Ctl (Ctl (Xg) ((List WX)) ((List WX))) ((List XL) × Int) ((List XL))) :=
 bif (decide ((wr .i64 (s2.2 + 1)) < (↑((get a0 k0).length) : Int))) then
  chk (0 ≤ s2.2 ∧ s2.2 < (↑((get a0 k0).length) : Int)) <|
  chk (0 ≤ (wr .i64 (s2.2 + 1)) ∧ (wr .i64 (s2.2 + 1)) < (↑((get a0 k0).length) : Int)) <|
  d4y (s2.1 ++ [(XL.mk (get (get a0 k0) s2.2.toNat) (get (get a0 k0) ((wr .i64 (s2.2 + 1)).toNat)))]) fun c38 =>
  chk (c38.length * 16 ≤ top ∧ c38.length ≤ top) <|
  some (.nxt (c38, (wr .i64 (s2.2 + 2))))
 else
  some (.brk s2.1)
def d1N (s0 : (List WX)) (a0 : (List (List Int))) (k0 : Nat) (t2 : (List XL)) : Option (Ctl (Xg) ((List WX)) ((List WX))) :=
 chk ((s0.length + 1) * 32 ≤ top ∧ s0.length + 1 ≤ top) <|
 some (.nxt (s0 ++ [(WX.mk (get (get a0 k0) 0) t2)]))
def d1O (n : Nat) (a0 : (List (List Int))) (k0 : Nat) (s0 : (List WX)) : Option (Ctl (Xg) ((List WX)) ((List WX))) :=
 chk (0 < (↑((get a0 k0).length) : Int)) <|
 Xx (d0v (d1M a0 k0) n ([], 1)) (d1N s0 a0 k0)
def d1P (t0 : (List WX)) : Option (Xg) :=
 some (Xg.mk t0)
def XQ (n : Nat) (a0 : (List (List Int))) : Option (Xg) :=
 Xx (XO (d1O n a0) a0.length []) (d1P)
def Xv (a0 : Bs) (a1 : WK) : Option (WO) :=
 some (WO.mk 1 a0 0 a1 [])
def ZJ (v3 : WK) (j0 : Int × Bs × Int × Bs × (List WK) × (List WO)) : Option (WO) :=
 (Xh v3 (WO.mk j0.1 j0.2.1 j0.2.2.1 (WK.mk j0.2.2.2.1 j0.2.2.2.2.1) j0.2.2.2.2.2)).bind fun v22 =>
 (Xh v3 v22).bind fun v23 =>
 some v23
def Zh (a0 : Bs) (a1 : Bs) (a2 : Bool) : Option (WO) :=
 (YO [101]).bind fun v1 =>
 (YO [116]).bind fun v2 =>
 (XA v1 v2).bind fun v3 =>
 (XA v3 v2).bind fun v4 =>
 (Xv a0 v4).bind fun v5 =>
 (XA v2 v2).bind fun v6 =>
 (XA v2 v6).bind fun v7 =>
 (Xv a1 v7).bind fun v8 =>
 (Xb 2).bind fun v9 =>
 (Xb 0).bind fun v10 =>
 (Xq v9 v10).bind fun v11 =>
 (Xq v8 v11).bind fun v12 =>
 (Xb 1).bind fun v13 =>
 (Xb 0).bind fun v14 =>
 (Xq v13 v14).bind fun v15 =>
 (Xq v12 v15).bind fun v16 =>
 (Xh v1 v16).bind fun v17 =>
 (Xq v5 v17).bind fun v18 =>
 bif a2 then
  (XA v2 v2).bind fun v19 =>
  (Xv [110, 111, 116] v19).bind fun v20 =>
  (Xq v20 v18).bind fun v21 =>
  ZJ v3 (v21.kind, v21.name, v21.index, v21.type.base, v21.type.args, v21.args)
 else
  ZJ v3 (v18.kind, v18.name, v18.index, v18.type.base, v18.type.args, v18.args)
def Xm (n : Nat) (a0 : Bs) (a1 : Int) (a2 : WO) (a3 : (List (List Int))) (d0F : (List WT)) (p7c : (List Xf)) (p7d : (List WQ)) (l1 : (List XE)) (l2 : (List WX)) : Option ((List XE)) :=
 (XQ n a3).bind fun v1 =>
 d4y (l1 ++ [(XE.mk a0 v1 a1 a2)]) fun c3 =>
 chk (c3.length * 144 ≤ top ∧ c3.length ≤ top) <|
 some c3
def d3t (n : Nat) : Option (Xa) :=
 (YO [101]).bind fun v1 =>
 (YO [116]).bind fun v2 =>
 (XA v1 v2).bind fun v3 =>
 (XA v1 v3).bind fun v4 =>
 (d1B [[116, 111, 112], [114, 117, 108, 101], [115, 105, 103, 110], [110, 117, 109], [115, 105, 110, 103], [112, 108, 117, 114], [115], [110, 112], [118, 112], [110], [100, 101, 116], [105, 118], [116, 118], [97, 100, 118], [99, 111, 110, 106]] [0, 0, 0, 0, 3, 3, 2, 2, 2, 2, 2, 2, 2, 2, 2] [(Xf.mk [109, 111, 116, 104, 101, 114] 1 2), (Xf.mk [111, 110, 101] 1 2), (Xf.mk [116, 119, 111] 1 2), (Xf.mk [116, 104, 114, 101, 101] 1 2), (Xf.mk [110, 117, 109] 2 3)]).bind fun v8 =>
 (d2w false).bind fun v9 =>
 chk (0 < (↑v9.length : Int)) <|
 (XQ n [[1, 0, 1, 1, 2, 2, 4], [6], [7, 4, 3], [3], [8, 4, 3]]).bind fun v17 =>
 chk (1 < (↑v9.length : Int)) <|
 (XQ n [[1, 0, 1, 1, 3, 2, 4], [7, 4, 2], [3], [10, 4, 2], [9, 4, 2]]).bind fun v25 =>
 chk (2 < (↑v9.length : Int)) <|
 (XQ n [[1, 0, 1, 1, 3], [8, 4, 2], [3], [11, 4, 2]]).bind fun v32 =>
 chk (3 < (↑v9.length : Int)) <|
 (XQ n [[1, 0, 1, 1, 3, 2, 4], [8, 4, 2], [3], [12, 4, 2], [7]]).bind fun v40 =>
 chk (4 < (↑v9.length : Int)) <|
 (XQ n [[1, 0, 1, 1, 3, 2, 4], [8, 4, 2], [3], [13], [8, 4, 2]]).bind fun v48 =>
 chk (5 < (↑v9.length : Int)) <|
 (XQ n [[1, 0, 1, 1, 3, 2, 4, 3, 5], [7, 4, 2], [5], [7], [14], [7]]).bind fun v57 =>
 (Zh [97, 108, 108] [105, 102] false).bind fun v59 =>
 (Xm n [101, 118, 101, 114, 121] 1 v59 [[10, 4, 1], [4]] v8.types v8.Xw [(WQ.mk [115] v17 2 0 (get v9 0)), (WQ.mk [110, 112] v25 2 1 (get v9 1)), (WQ.mk [118, 112, 45, 105, 118] v32 1 0 (get v9 2)), (WQ.mk [118, 112, 45, 116, 118] v40 2 2 (get v9 3)), (WQ.mk [118, 112, 45, 110, 111, 116] v48 2 3 (get v9 4)), (WQ.mk [110, 112, 45, 97, 110, 100] v57 3 4 (get v9 5))] [] []).bind fun v63 =>
 (Zh [115, 111, 109, 101] [97, 110, 100] false).bind fun v64 =>
 (Xm n [97] 0 v64 [[10, 4, 1], [4]] v8.types v8.Xw [(WQ.mk [115] v17 2 0 (get v9 0)), (WQ.mk [110, 112] v25 2 1 (get v9 1)), (WQ.mk [118, 112, 45, 105, 118] v32 1 0 (get v9 2)), (WQ.mk [118, 112, 45, 116, 118] v40 2 2 (get v9 3)), (WQ.mk [118, 112, 45, 110, 111, 116] v48 2 3 (get v9 4)), (WQ.mk [110, 112, 45, 97, 110, 100] v57 3 4 (get v9 5))] v63 []).bind fun v68 =>
 (Zh [115, 111, 109, 101] [97, 110, 100] true).bind fun v69 =>
 (Xm n [110, 111] 2 v69 [[10]] v8.types v8.Xw [(WQ.mk [115] v17 2 0 (get v9 0)), (WQ.mk [110, 112] v25 2 1 (get v9 1)), (WQ.mk [118, 112, 45, 105, 118] v32 1 0 (get v9 2)), (WQ.mk [118, 112, 45, 116, 118] v40 2 2 (get v9 3)), (WQ.mk [118, 112, 45, 110, 111, 116] v48 2 3 (get v9 4)), (WQ.mk [110, 112, 45, 97, 110, 100] v57 3 4 (get v9 5))] v68 []).bind fun v72 =>
 (Xv [100, 111, 103] v3).bind fun v73 =>
 (Xm n [100, 111, 103] 0 v73 [[9, 4, 1], [4]] v8.types v8.Xw [(WQ.mk [115] v17 2 0 (get v9 0)), (WQ.mk [110, 112] v25 2 1 (get v9 1)), (WQ.mk [118, 112, 45, 105, 118] v32 1 0 (get v9 2)), (WQ.mk [118, 112, 45, 116, 118] v40 2 2 (get v9 3)), (WQ.mk [118, 112, 45, 110, 111, 116] v48 2 3 (get v9 4)), (WQ.mk [110, 112, 45, 97, 110, 100] v57 3 4 (get v9 5))] v72 []).bind fun v77 =>
 (Xv [100, 111, 103] v3).bind fun v78 =>
 (Xm n [100, 111, 103, 115] 0 v78 [[9, 4, 1], [5]] v8.types v8.Xw [(WQ.mk [115] v17 2 0 (get v9 0)), (WQ.mk [110, 112] v25 2 1 (get v9 1)), (WQ.mk [118, 112, 45, 105, 118] v32 1 0 (get v9 2)), (WQ.mk [118, 112, 45, 116, 118] v40 2 2 (get v9 3)), (WQ.mk [118, 112, 45, 110, 111, 116] v48 2 3 (get v9 4)), (WQ.mk [110, 112, 45, 97, 110, 100] v57 3 4 (get v9 5))] v77 []).bind fun v82 =>
 (Xv [99, 97, 116] v3).bind fun v83 =>
 (Xm n [99, 97, 116] 0 v83 [[9, 4, 1], [4]] v8.types v8.Xw [(WQ.mk [115] v17 2 0 (get v9 0)), (WQ.mk [110, 112] v25 2 1 (get v9 1)), (WQ.mk [118, 112, 45, 105, 118] v32 1 0 (get v9 2)), (WQ.mk [118, 112, 45, 116, 118] v40 2 2 (get v9 3)), (WQ.mk [118, 112, 45, 110, 111, 116] v48 2 3 (get v9 4)), (WQ.mk [110, 112, 45, 97, 110, 100] v57 3 4 (get v9 5))] v82 []).bind fun v87 =>
 (Xv [99, 97, 116] v3).bind fun v88 =>
 (Xm n [99, 97, 116, 115] 0 v88 [[9, 4, 1], [5]] v8.types v8.Xw [(WQ.mk [115] v17 2 0 (get v9 0)), (WQ.mk [110, 112] v25 2 1 (get v9 1)), (WQ.mk [118, 112, 45, 105, 118] v32 1 0 (get v9 2)), (WQ.mk [118, 112, 45, 116, 118] v40 2 2 (get v9 3)), (WQ.mk [118, 112, 45, 110, 111, 116] v48 2 3 (get v9 4)), (WQ.mk [110, 112, 45, 97, 110, 100] v57 3 4 (get v9 5))] v87 []).bind fun v92 =>
 (Xv [102, 105, 115, 104] v3).bind fun v93 =>
 (Xm n [102, 105, 115, 104] 1 v93 [[9, 4, 1], [4]] v8.types v8.Xw [(WQ.mk [115] v17 2 0 (get v9 0)), (WQ.mk [110, 112] v25 2 1 (get v9 1)), (WQ.mk [118, 112, 45, 105, 118] v32 1 0 (get v9 2)), (WQ.mk [118, 112, 45, 116, 118] v40 2 2 (get v9 3)), (WQ.mk [118, 112, 45, 110, 111, 116] v48 2 3 (get v9 4)), (WQ.mk [110, 112, 45, 97, 110, 100] v57 3 4 (get v9 5))] v92 []).bind fun v97 =>
 (Xv [102, 105, 115, 104] v3).bind fun v98 =>
 (Xm n [102, 105, 115, 104] 2 v98 [[9, 4, 1], [5]] v8.types v8.Xw [(WQ.mk [115] v17 2 0 (get v9 0)), (WQ.mk [110, 112] v25 2 1 (get v9 1)), (WQ.mk [118, 112, 45, 105, 118] v32 1 0 (get v9 2)), (WQ.mk [118, 112, 45, 116, 118] v40 2 2 (get v9 3)), (WQ.mk [118, 112, 45, 110, 111, 116] v48 2 3 (get v9 4)), (WQ.mk [110, 112, 45, 97, 110, 100] v57 3 4 (get v9 5))] v97 []).bind fun v102 =>
 (Xv [98, 97, 114, 107] v3).bind fun v103 =>
 (Xm n [98, 97, 114, 107, 115] 0 v103 [[11, 4, 1], [4]] v8.types v8.Xw [(WQ.mk [115] v17 2 0 (get v9 0)), (WQ.mk [110, 112] v25 2 1 (get v9 1)), (WQ.mk [118, 112, 45, 105, 118] v32 1 0 (get v9 2)), (WQ.mk [118, 112, 45, 116, 118] v40 2 2 (get v9 3)), (WQ.mk [118, 112, 45, 110, 111, 116] v48 2 3 (get v9 4)), (WQ.mk [110, 112, 45, 97, 110, 100] v57 3 4 (get v9 5))] v102 []).bind fun v107 =>
 (Xv [98, 97, 114, 107] v3).bind fun v108 =>
 (Xm n [98, 97, 114, 107] 0 v108 [[11, 4, 1], [5]] v8.types v8.Xw [(WQ.mk [115] v17 2 0 (get v9 0)), (WQ.mk [110, 112] v25 2 1 (get v9 1)), (WQ.mk [118, 112, 45, 105, 118] v32 1 0 (get v9 2)), (WQ.mk [118, 112, 45, 116, 118] v40 2 2 (get v9 3)), (WQ.mk [118, 112, 45, 110, 111, 116] v48 2 3 (get v9 4)), (WQ.mk [110, 112, 45, 97, 110, 100] v57 3 4 (get v9 5))] v107 []).bind fun v112 =>
 (Xv [115, 108, 101, 101, 112] v3).bind fun v113 =>
 (Xm n [115, 108, 101, 101, 112, 115] 0 v113 [[11, 4, 1], [4]] v8.types v8.Xw [(WQ.mk [115] v17 2 0 (get v9 0)), (WQ.mk [110, 112] v25 2 1 (get v9 1)), (WQ.mk [118, 112, 45, 105, 118] v32 1 0 (get v9 2)), (WQ.mk [118, 112, 45, 116, 118] v40 2 2 (get v9 3)), (WQ.mk [118, 112, 45, 110, 111, 116] v48 2 3 (get v9 4)), (WQ.mk [110, 112, 45, 97, 110, 100] v57 3 4 (get v9 5))] v112 []).bind fun v117 =>
 (Xv [115, 108, 101, 101, 112] v3).bind fun v118 =>
 (Xm n [115, 108, 101, 101, 112] 0 v118 [[11, 4, 1], [5]] v8.types v8.Xw [(WQ.mk [115] v17 2 0 (get v9 0)), (WQ.mk [110, 112] v25 2 1 (get v9 1)), (WQ.mk [118, 112, 45, 105, 118] v32 1 0 (get v9 2)), (WQ.mk [118, 112, 45, 116, 118] v40 2 2 (get v9 3)), (WQ.mk [118, 112, 45, 110, 111, 116] v48 2 3 (get v9 4)), (WQ.mk [110, 112, 45, 97, 110, 100] v57 3 4 (get v9 5))] v117 []).bind fun v122 =>
 (Xv [99, 104, 97, 115, 101] v4).bind fun v123 =>
 (Xm n [99, 104, 97, 115, 101, 115] 0 v123 [[12, 4, 1], [4]] v8.types v8.Xw [(WQ.mk [115] v17 2 0 (get v9 0)), (WQ.mk [110, 112] v25 2 1 (get v9 1)), (WQ.mk [118, 112, 45, 105, 118] v32 1 0 (get v9 2)), (WQ.mk [118, 112, 45, 116, 118] v40 2 2 (get v9 3)), (WQ.mk [118, 112, 45, 110, 111, 116] v48 2 3 (get v9 4)), (WQ.mk [110, 112, 45, 97, 110, 100] v57 3 4 (get v9 5))] v122 []).bind fun v127 =>
 (Xv [99, 104, 97, 115, 101] v4).bind fun v128 =>
 (Xm n [99, 104, 97, 115, 101] 0 v128 [[12, 4, 1], [5]] v8.types v8.Xw [(WQ.mk [115] v17 2 0 (get v9 0)), (WQ.mk [110, 112] v25 2 1 (get v9 1)), (WQ.mk [118, 112, 45, 105, 118] v32 1 0 (get v9 2)), (WQ.mk [118, 112, 45, 116, 118] v40 2 2 (get v9 3)), (WQ.mk [118, 112, 45, 110, 111, 116] v48 2 3 (get v9 4)), (WQ.mk [110, 112, 45, 97, 110, 100] v57 3 4 (get v9 5))] v127 []).bind fun v132 =>
 (Xv [115, 101, 101] v4).bind fun v133 =>
 (Xm n [115, 101, 101, 115] 1 v133 [[12, 4, 1], [4]] v8.types v8.Xw [(WQ.mk [115] v17 2 0 (get v9 0)), (WQ.mk [110, 112] v25 2 1 (get v9 1)), (WQ.mk [118, 112, 45, 105, 118] v32 1 0 (get v9 2)), (WQ.mk [118, 112, 45, 116, 118] v40 2 2 (get v9 3)), (WQ.mk [118, 112, 45, 110, 111, 116] v48 2 3 (get v9 4)), (WQ.mk [110, 112, 45, 97, 110, 100] v57 3 4 (get v9 5))] v132 []).bind fun v137 =>
 (Xv [115, 101, 101] v4).bind fun v138 =>
 (Xm n [115, 101, 101] 1 v138 [[12, 4, 1], [5]] v8.types v8.Xw [(WQ.mk [115] v17 2 0 (get v9 0)), (WQ.mk [110, 112] v25 2 1 (get v9 1)), (WQ.mk [118, 112, 45, 105, 118] v32 1 0 (get v9 2)), (WQ.mk [118, 112, 45, 116, 118] v40 2 2 (get v9 3)), (WQ.mk [118, 112, 45, 110, 111, 116] v48 2 3 (get v9 4)), (WQ.mk [110, 112, 45, 97, 110, 100] v57 3 4 (get v9 5))] v137 []).bind fun v142 =>
 (XA v2 v2).bind fun v143 =>
 (Xv [110, 111, 116] v143).bind fun v144 =>
 (Xm n [110, 111, 116] 0 v144 [[13]] v8.types v8.Xw [(WQ.mk [115] v17 2 0 (get v9 0)), (WQ.mk [110, 112] v25 2 1 (get v9 1)), (WQ.mk [118, 112, 45, 105, 118] v32 1 0 (get v9 2)), (WQ.mk [118, 112, 45, 116, 118] v40 2 2 (get v9 3)), (WQ.mk [118, 112, 45, 110, 111, 116] v48 2 3 (get v9 4)), (WQ.mk [110, 112, 45, 97, 110, 100] v57 3 4 (get v9 5))] v142 []).bind fun v147 =>
 (XA v2 v2).bind fun v148 =>
 (XA v2 v148).bind fun v149 =>
 (Xv [97, 110, 100] v149).bind fun v150 =>
 (Xm n [97, 110, 100] 0 v150 [[14]] v8.types v8.Xw [(WQ.mk [115] v17 2 0 (get v9 0)), (WQ.mk [110, 112] v25 2 1 (get v9 1)), (WQ.mk [118, 112, 45, 105, 118] v32 1 0 (get v9 2)), (WQ.mk [118, 112, 45, 116, 118] v40 2 2 (get v9 3)), (WQ.mk [118, 112, 45, 110, 111, 116] v48 2 3 (get v9 4)), (WQ.mk [110, 112, 45, 97, 110, 100] v57 3 4 (get v9 5))] v147 []).bind fun v153 =>
 (Xb 0).bind fun v154 =>
 (Xv [114, 101, 120] v1).bind fun v155 =>
 (Xq v154 v155).bind fun v156 =>
 (Xh v3 v156).bind fun v157 =>
 (Xm n [114, 101, 120] 0 v157 [[7, 4, 1], [4]] v8.types v8.Xw [(WQ.mk [115] v17 2 0 (get v9 0)), (WQ.mk [110, 112] v25 2 1 (get v9 1)), (WQ.mk [118, 112, 45, 105, 118] v32 1 0 (get v9 2)), (WQ.mk [118, 112, 45, 116, 118] v40 2 2 (get v9 3)), (WQ.mk [118, 112, 45, 110, 111, 116] v48 2 3 (get v9 4)), (WQ.mk [110, 112, 45, 97, 110, 100] v57 3 4 (get v9 5))] v153 []).bind fun v161 =>
 (Xb 0).bind fun v162 =>
 (Xv [109, 105, 97] v1).bind fun v163 =>
 (Xq v162 v163).bind fun v164 =>
 (Xh v3 v164).bind fun v165 =>
 (Xm n [109, 105, 97] 0 v165 [[7, 4, 1], [4]] v8.types v8.Xw [(WQ.mk [115] v17 2 0 (get v9 0)), (WQ.mk [110, 112] v25 2 1 (get v9 1)), (WQ.mk [118, 112, 45, 105, 118] v32 1 0 (get v9 2)), (WQ.mk [118, 112, 45, 116, 118] v40 2 2 (get v9 3)), (WQ.mk [118, 112, 45, 110, 111, 116] v48 2 3 (get v9 4)), (WQ.mk [110, 112, 45, 97, 110, 100] v57 3 4 (get v9 5))] v161 []).bind fun v169 =>
 (XQ n [[6]]).bind fun v172 =>
 some (Xa.mk v8 [(WQ.mk [115] v17 2 0 (get v9 0)), (WQ.mk [110, 112] v25 2 1 (get v9 1)), (WQ.mk [118, 112, 45, 105, 118] v32 1 0 (get v9 2)), (WQ.mk [118, 112, 45, 116, 118] v40 2 2 (get v9 3)), (WQ.mk [118, 112, 45, 110, 111, 116] v48 2 3 (get v9 4)), (WQ.mk [110, 112, 45, 97, 110, 100] v57 3 4 (get v9 5))] v169 v172)
def Yz (a0 : Int) (a1 : Int) : Option (WM) :=
 some (WM.mk a0 a1)
def d7S (a0 : Bs) (k0 : Nat) (s0 : Unit) : Option (Ctl (Bool) (Unit) (Unit)) :=
 bif (!(bif (bif (bif (bif (decide (97 ≤ (Xd a0 (↑k0 : Int)))) then (decide ((Xd a0 (↑k0 : Int)) ≤ 122)) else false) then true else (bif (decide (48 ≤ (Xd a0 (↑k0 : Int)))) then (decide ((Xd a0 (↑k0 : Int)) ≤ 57)) else false)) then true else (decide ((Xd a0 (↑k0 : Int)) = 95))) then true else (decide ((Xd a0 (↑k0 : Int)) = 45)))) then
  some (.ret false)
 else
  some (.nxt ())
def d7T (t0 : Unit) : Option (Bool) :=
 some true
def termName (a0 : Bs) : Option (Bool) :=
 chk (d5N (!(bif (decide ((↑a0.length : Int) = 0)) then true else (decide (30 < (↑a0.length : Int))))) (0 < (↑a0.length : Int))) <|
 chk (d5N (!(bif (bif (decide ((↑a0.length : Int) = 0)) then true else (decide (30 < (↑a0.length : Int)))) then true else (decide ((Xd a0 0) < 97)))) (0 < (↑a0.length : Int))) <|
 bif (bif (bif (bif (decide ((↑a0.length : Int) = 0)) then true else (decide (30 < (↑a0.length : Int)))) then true else (decide ((Xd a0 0) < 97))) then true else (decide (122 < (Xd a0 0)))) then
  some false
 else
  chk (a0.length ≤ 9223372036854775807) <|
  Xx (XO (d7S a0) a0.length ()) (d7T)
def d3C (a0 : (List WT)) (k0 : Nat) (k2 : Nat) (s2 : Int) : Option (Ctl (Ctl (WM) ((List (Bs × Int))) ((List (Bs × Int)))) (Int) (Int)) :=
 bif (bif (decide ((get ((get a0 k0).parents) k2) < 0)) then true else (decide ((↑k0 : Int) ≤ (get ((get a0 k0).parents) k2)))) then
  (Yz 3 (↑k0 : Int)).bind fun v20 =>
  some (.ret (.ret v20))
 else
  bif (decide ((get ((get a0 k0).parents) k2) ≤ s2)) then
   (Yz 13 (↑k0 : Int)).bind fun v21 =>
   some (.ret (.ret v21))
  else
   some (.nxt (get ((get a0 k0).parents) k2))
def d3D (c15 : (List (Bs × Int))) (t2 : Int) : Option (Ctl (WM) ((List (Bs × Int))) ((List (Bs × Int)))) :=
 some (.nxt c15)
def d3B (a0 : (List WT)) (k0 : Nat) (s0 : (List (Bs × Int))) : Option (Ctl (WM) ((List (Bs × Int))) ((List (Bs × Int)))) :=
 (termName ((get a0 k0).name)).bind fun v12 =>
 bif (!v12) then
  (Yz 10 (↑k0 : Int)).bind fun v13 =>
  some (.ret v13)
 else
  bif (assoc ((get a0 k0).name) s0).isSome then
   (Yz 7 (↑k0 : Int)).bind fun v14 =>
   some (.ret v14)
  else
   d4y (YH ((get a0 k0).name) (↑k0 : Int) s0) fun c15 =>
   bif (!decide ((decide ((↑k0 : Int) = 0)) = (decide ((↑(((get a0 k0).parents).length) : Int) = 0)))) then
    (Yz 5 (↑k0 : Int)).bind fun v17 =>
    some (.ret v17)
   else
    Xx (XO (d3C a0 k0) (((get a0 k0).parents).length) (-1)) (d3D c15)
def d5g (t0 : (List (Bs × Int))) : Option (WM) :=
 some (WM.mk 0 0)
def d2R (a0 : (List WT)) : Option (WM) :=
 bif (bif (decide ((↑a0.length : Int) = 0)) then true else (decide (60 < (↑a0.length : Int)))) then
  (Yz 2 (-1)).bind fun v1 =>
  some v1
 else
  Xx (XO (d3B a0) a0.length []) (d5g)
def d3c (k0 : Nat) (a0 : (List WT)) (k3 : Nat) (s3 : (List Int)) : Option (Ctl (Ctl (Xi) ((List Int) × (List Int)) ((List Int) × (List Int))) ((List Int)) ((List Int))) :=
 chk ((↑k0 : Int) < (↑s3.length : Int)) <|
 chk (0 ≤ (get ((get a0 k0).parents) k3) ∧ (get ((get a0 k0).parents) k3) < (↑s3.length : Int)) <|
 d4y (s3.set k0 (d0q .or .u64 (get s3 k0) (get s3 ((get ((get a0 k0).parents) k3).toNat)))) fun c86 =>
 some (.nxt c86)
def d3e (k0 : Nat) (t3 : (List Int)) (k4 : Nat) (s4 : (List Int)) : Option (Ctl (Ctl (Xi) ((List Int) × (List Int)) ((List Int) × (List Int))) ((List Int)) ((List Int))) :=
 chk ((↑k0 : Int) < (↑t3.length : Int)) <|
 chk (0 ≤ (↑k4 : Int)) <|
 bif (decide ((d0q .and .u64 (Int.fdiv (get t3 k0) (2 ^ (min k4 64))) 1) = 1)) then
  chk ((↑k4 : Int) < (↑s4.length : Int)) <|
  d4y (s4.set k4 (d0q .or .u64 (get s4 k4) (wr .u64 (1 * 2 ^ (min k0 64))))) fun c110 =>
  some (.nxt c110)
 else
  some (.nxt s4)
def d3f (t3 : (List Int)) (t4 : (List Int)) : Option (Ctl (Xi) ((List Int) × (List Int)) ((List Int) × (List Int))) :=
 some (.nxt (t3, t4))
def d3d (k0 : Nat) (a0 : (List WT)) (s0 : (List Int) × (List Int)) (t3 : (List Int)) : Option (Ctl (Xi) ((List Int) × (List Int)) ((List Int) × (List Int))) :=
 Xx (XO (d3e k0 t3) a0.length s0.2) (d3f t3)
def d3b (a0 : (List WT)) (k0 : Nat) (s0 : (List Int) × (List Int)) : Option (Ctl (Xi) ((List Int) × (List Int)) ((List Int) × (List Int))) :=
 chk (0 ≤ (↑k0 : Int)) <|
 chk ((↑k0 : Int) < (↑s0.1.length : Int)) <|
 d4y (s0.1.set k0 (wr .u64 (1 * 2 ^ (min k0 64)))) fun c62 =>
 Xx (XO (d3c k0 a0) (((get a0 k0).parents).length) c62) (d3d k0 a0 s0)
def d3g (t0 : (List Int) × (List Int)) : Option (Xi) :=
 some (Xi.mk t0.1 t0.2)
def d2s (a0 : (List WT)) : Option (Xi) :=
 chk (a0.length * 8 ≤ top ∧ a0.length ≤ top) <|
 Xx (XO (d3b a0) a0.length ((List.replicate a0.length (default : Int)), (List.replicate a0.length (default : Int)))) (d3g)
def d0a (a0 : Int) : Option (Int) :=
 bif (decide (a0 = 0)) then
  some 64
 else
  chk (0 ≤ (Int.fdiv (wr .u64 ((d0q .and .u64 a0 (wr .u64 (0 - a0))) * 285870213051353865)) (2 ^ (min 58 64))) ∧ (Int.fdiv (wr .u64 ((d0q .and .u64 a0 (wr .u64 (0 - a0))) * 285870213051353865)) (2 ^ (min 58 64))) < 64) <|
  some (wr .i64 (get p1p ((Int.fdiv (wr .u64 ((d0q .and .u64 a0 (wr .u64 (0 - a0))) * 285870213051353865)) (2 ^ (min 58 64))).toNat)))
def d1U (a0 : Xi) (a1 : Int) (a2 : Int) : Option (Int × Bool × Bool) :=
 chk (0 ≤ a1 ∧ a1 < (↑a0.down.length : Int)) <|
 chk (0 ≤ a2 ∧ a2 < (↑a0.down.length : Int)) <|
 bif (decide ((d0q .and .u64 (get a0.down a1.toNat) (get a0.down a2.toNat)) = 0)) then
  some (0, false, false)
 else
  (d0a (d0q .and .u64 (get a0.down a1.toNat) (get a0.down a2.toNat))).bind fun v5 =>
  chk (0 ≤ v5 ∧ v5 < (↑a0.down.length : Int)) <|
  bif (!decide ((get a0.down v5.toNat) = (d0q .and .u64 (get a0.down a1.toNat) (get a0.down a2.toNat)))) then
   some (0, false, true)
  else
   some (v5, true, false)
def d2l (v3 : Xi) (k0 : Nat) (k1 : Nat) (s1 : Unit) : Option (Ctl (Ctl (WM) (Unit) (Unit)) (Unit) (Unit)) :=
 (d1U v3 (↑k1 : Int) (↑k0 : Int)).bind fun v6 =>
 bif v6.2.2 then
  (Yz 16 (↑k0 : Int)).bind fun v7 =>
  some (.ret (.ret v7))
 else
  some (.nxt ())
def d2m (t1 : Unit) : Option (Ctl (WM) (Unit) (Unit)) :=
 some (.nxt ())
def d2k (v3 : Xi) (k0 : Nat) (s0 : Unit) : Option (Ctl (WM) (Unit) (Unit)) :=
 chk (k0 ≤ 9223372036854775807) <|
 Xx (XO (d2l v3 k0) k0 ()) (d2m)
def d2j (a0 : WU) (k2 : Nat) (s2 : (List (Bs × Int))) : Option (Ctl (WM) ((List (Bs × Int))) ((List (Bs × Int)))) :=
 (termName ((get a0.Xw k2).name)).bind fun v14 =>
 bif (!v14) then
  (Yz 10 (↑k2 : Int)).bind fun v15 =>
  some (.ret v15)
 else
  bif (assoc ((get a0.Xw k2).name) s2).isSome then
   (Yz 7 (↑k2 : Int)).bind fun v16 =>
   some (.ret v16)
  else
   d4y (YH ((get a0.Xw k2).name) (↑k2 : Int) s2) fun c17 =>
   bif (bif (bif (bif (decide (((get a0.Xw k2).of_) < 0)) then true else (decide ((↑a0.types.length : Int) ≤ ((get a0.Xw k2).of_)))) then true else (decide (((get a0.Xw k2).value) < 0))) then true else (decide ((↑a0.types.length : Int) ≤ ((get a0.Xw k2).value)))) then
    (Yz 3 (↑k2 : Int)).bind fun v19 =>
    some (.ret v19)
   else
    some (.nxt c17)
def d3O (t2 : (List (Bs × Int))) : Option (WM) :=
 some (WM.mk 0 0)
def d1g (a0 : WU) (t0 : Unit) : Option (WM) :=
 Xx (XO (d2j a0) a0.Xw.length []) (d3O)
def d2t (a0 : WU) : Option (WM) :=
 bif (bif (bif (decide ((↑a0.types.length : Int) = 0)) then true else (decide (60 < (↑a0.types.length : Int)))) then true else (decide (40 < (↑a0.Xw.length : Int)))) then
  (Yz 2 (-1)).bind fun v1 =>
  some v1
 else
  (d2R a0.types).bind fun v2 =>
  bif (!decide (v2.code = 0)) then
   some v2
  else
   (d2s a0.types).bind fun v3 =>
   chk (a0.types.length ≤ 9223372036854775807) <|
   Xx (XO (d2k v3) a0.types.length ()) (d1g a0)
def d1q (a0 : Int) (a1 : Int) : Option (WM) :=
 some (WM.mk a0 a1)
def d3A (a0 : Int) (a1 : Int) : Option (WM) :=
 some (WM.mk a0 a1)
def d5U (a1 : Xg) (k0 : Nat) (a0 : WU) (k2 : Nat) (s2 : Int) : Option (Ctl (Ctl (WM) (Unit) (Unit)) (Int) (Int)) :=
 bif (bif (bif (bif (decide (((get ((get a1.nodes k0).links) k2).d4T) < 0)) then true else (decide ((↑a0.Xw.length : Int) ≤ ((get ((get a1.nodes k0).links) k2).d4T)))) then true else (decide (((get ((get a1.nodes k0).links) k2).to_) < 0))) then true else (decide ((↑a1.nodes.length : Int) ≤ ((get ((get a1.nodes k0).links) k2).to_)))) then
  (d3A 3 (↑k0 : Int)).bind fun v10 =>
  some (.ret (.ret v10))
 else
  bif (decide (((get ((get a1.nodes k0).links) k2).d4T) ≤ s2)) then
   (d3A 13 (↑k0 : Int)).bind fun v11 =>
   some (.ret (.ret v11))
  else
   some (.nxt ((get ((get a1.nodes k0).links) k2).d4T))
def d5V (t2 : Int) : Option (Ctl (WM) (Unit) (Unit)) :=
 some (.nxt ())
def d5T (a1 : Xg) (a0 : WU) (k0 : Nat) (s0 : Unit) : Option (Ctl (WM) (Unit) (Unit)) :=
 bif (bif (decide (((get a1.nodes k0).type) < 0)) then true else (decide ((↑a0.types.length : Int) ≤ ((get a1.nodes k0).type)))) then
  (d3A 3 (↑k0 : Int)).bind fun v7 =>
  some (.ret v7)
 else
  Xx (XO (d5U a1 k0 a0) (((get a1.nodes k0).links).length) (-1)) (d5V)
def d7W (t0 : Unit) : Option (WM) :=
 some (WM.mk 0 0)
def d7A (a0 : WU) (a1 : Xg) : Option (WM) :=
 bif (bif (decide ((↑a1.nodes.length : Int) = 0)) then true else (decide (60 < (↑a1.nodes.length : Int)))) then
  (d3A 2 (-2)).bind fun v1 =>
  some v1
 else
  Xx (XO (d5T a1 a0) a1.nodes.length ()) (d7W)
def d1t (a0 : Xi) (a1 : Int) (a2 : Int) : Option (Bool) :=
 chk (0 ≤ a1 ∧ a1 < (↑a0.up.length : Int)) <|
 chk (0 ≤ a2) <|
 some (decide ((d0q .and .u64 (Int.fdiv (get a0.up a1.toNat) (2 ^ (min a2.toNat 64))) 1) = 1))
def d1H (a1 : Bool) (a0 : (List Bool)) (k0 : Nat) (s0 : Unit) : Option (Ctl (Int) (Unit) (Unit)) :=
 bif (decide (a1 = (get a0 k0))) then
  some (.ret (↑k0 : Int))
 else
  some (.nxt ())
def d2X (t0 : Unit) : Option (Int) :=
 some (-1)
def YD (a0 : (List Bool)) (a1 : Bool) : Option (Int) :=
 Xx (XO (d1H a1 a0) a0.length ()) (d2X)
def d3F (a0 : Xg) (s0 : (List Bool) × (List Int) × Nat) (k2 : Nat) (s2 : (List Bool) × (List Int) × Nat) : Option (Ctl (Ctl (Int) ((List Bool) × (List Int) × Nat) ((List Bool))) ((List Bool) × (List Int) × Nat) ((List Bool) × (List Int) × Nat)) :=
 chk (0 ≤ (get ((get a0.nodes ((get s0.2.1 ((wr .i64 ((↑s0.2.2 : Int) - 1)).toNat)).toNat)).links) k2).to_ ∧ (get ((get a0.nodes ((get s0.2.1 ((wr .i64 ((↑s0.2.2 : Int) - 1)).toNat)).toNat)).links) k2).to_ < (↑s2.1.length : Int)) <|
 bif (!(get s2.1 (((get ((get a0.nodes ((get s0.2.1 ((wr .i64 ((↑s0.2.2 : Int) - 1)).toNat)).toNat)).links) k2).to_).toNat))) then
  d4y (s2.1.set (((get ((get a0.nodes ((get s0.2.1 ((wr .i64 ((↑s0.2.2 : Int) - 1)).toNat)).toNat)).links) k2).to_).toNat) true) fun c79 =>
  chk (s2.2.2 ≤ s2.2.1.length) <|
  d4y ((s2.2.1.take s2.2.2) ++ [(get ((get a0.nodes ((get s0.2.1 ((wr .i64 ((↑s0.2.2 : Int) - 1)).toNat)).toNat)).links) k2).to_]) fun c84 =>
  chk (c84.length * 8 ≤ top ∧ c84.length ≤ top) <|
  some (.nxt (c79, c84, c84.length))
 else
  some (.nxt (s2.1, s2.2.1, s2.2.2))
def d3G (t2 : (List Bool) × (List Int) × Nat) : Option (Ctl (Int) ((List Bool) × (List Int) × Nat) ((List Bool))) :=
 some (.nxt (t2.1, t2.2.1, t2.2.2))
def d3E (a0 : Xg) (s0 : (List Bool) × (List Int) × Nat) : Option (Ctl (Int) ((List Bool) × (List Int) × Nat) ((List Bool))) :=
 bif (decide (0 < (↑s0.2.2 : Int))) then
  chk (s0.2.2 ≤ s0.2.1.length) <|
  chk (0 ≤ (wr .i64 ((↑s0.2.2 : Int) - 1)) ∧ (wr .i64 ((↑s0.2.2 : Int) - 1)) < (↑s0.2.2 : Int)) <|
  chk ((wr .i64 ((↑s0.2.2 : Int) - 1)).toNat ≤ s0.2.2) <|
  chk (0 ≤ (get s0.2.1 ((wr .i64 ((↑s0.2.2 : Int) - 1)).toNat)) ∧ (get s0.2.1 ((wr .i64 ((↑s0.2.2 : Int) - 1)).toNat)) < (↑a0.nodes.length : Int)) <|
  Xx (XO (d3F a0 s0) (((get a0.nodes ((get s0.2.1 ((wr .i64 ((↑s0.2.2 : Int) - 1)).toNat)).toNat)).links).length) (s0.1, s0.2.1, (wr .i64 ((↑s0.2.2 : Int) - 1)).toNat)) (d3G)
 else
  some (.brk s0.1)
def d3H (t0 : (List Bool)) : Option (Int) :=
 (YD t0 false).bind fun v89 =>
 some v89
def d2S (n : Nat) (a0 : Xg) : Option (Int) :=
 chk (a0.nodes.length * 1 ≤ top ∧ a0.nodes.length ≤ top) <|
 chk (0 < (↑a0.nodes.length : Int)) <|
 d4y ((List.replicate a0.nodes.length (default : Bool)).set 0 true) fun c7 =>
 Xx (d0v (d3E a0) n (c7, [0], 1)) (d3H)
def d5k (a2 : Xg) (k0 : Nat) (a0 : WU) (a1 : Xi) (k2 : Nat) (s2 : Unit) : Option (Ctl (Ctl (WM) (Unit) (Unit)) (Unit) (Unit)) :=
 chk (0 ≤ (get ((get a2.nodes k0).links) k2).d4T ∧ (get ((get a2.nodes k0).links) k2).d4T < (↑a0.Xw.length : Int)) <|
 (d1t a1 ((get a2.nodes k0).type) ((get a0.Xw (((get ((get a2.nodes k0).links) k2).d4T).toNat)).of_)).bind fun v28 =>
 chk (d5N (!(!v28)) (0 ≤ (get ((get a2.nodes k0).links) k2).to_) ∧ d5N (!(!v28)) ((get ((get a2.nodes k0).links) k2).to_ < (↑a2.nodes.length : Int))) <|
 (gd (!(!v28)) (d1t a1 ((get a2.nodes (((get ((get a2.nodes k0).links) k2).to_).toNat)).type) ((get a0.Xw (((get ((get a2.nodes k0).links) k2).d4T).toNat)).value)) default).bind fun v32 =>
 bif (bif (!v28) then true else (!v32)) then
  (d3A 12 (↑k0 : Int)).bind fun v33 =>
  some (.ret (.ret v33))
 else
  some (.nxt ())
def d5l (t2 : Unit) : Option (Ctl (WM) (Unit) (Unit)) :=
 some (.nxt ())
def d5j (a2 : Xg) (a0 : WU) (a1 : Xi) (k0 : Nat) (s0 : Unit) : Option (Ctl (WM) (Unit) (Unit)) :=
 Xx (XO (d5k a2 k0 a0 a1) (((get a2.nodes k0).links).length) ()) (d5l)
def d5m (n : Nat) (a2 : Xg) (t0 : Unit) : Option (WM) :=
 (d2S n a2).bind fun v34 =>
 bif (decide (0 ≤ v34)) then
  (d3A 5 v34).bind fun v35 =>
  some v35
 else
  some (WM.mk 0 0)
def d4j (n : Nat) (a0 : WU) (a1 : Xi) (a2 : Xg) : Option (WM) :=
 (d7A a0 a2).bind fun v1 =>
 bif (!decide (v1.code = 0)) then
  some v1
 else
  Xx (XO (d5j a2 a0 a1) a2.nodes.length ()) (d5m n a2)
def d7X (a0 : Int) : Option (Bool) :=
 some false
def d4J (a0 : Int) (a1 : Int) : Option (Int) :=
 (d7X a0).bind fun v1 =>
 (d7X a1).bind fun v2 =>
 bif v1 then
  bif v2 then
   some 0
  else
   some (-1)
 else
  bif v2 then
   some 1
  else
   bif (decide (a0 < a1)) then
    some (-1)
   else
    bif (decide (a1 < a0)) then
     some 1
    else
     some 0
def d4v (a0 : XL) (a1 : Int) : Option (Int) :=
 (d4J a0.d4T a1).bind fun v1 =>
 some v1
def XW (a0 : (List XL)) (a1 : Int) (s0 : Int × Int) : Option (Ctl (Int × Bool) (Int × Int) (Int)) :=
 bif (decide (s0.2 < s0.1)) then
  chk (0 ≤ (wr .i64 (Int.fdiv (wr .u64 (wr .i64 (s0.2 + s0.1))) (2 ^ (min 1 64)))) ∧ (wr .i64 (Int.fdiv (wr .u64 (wr .i64 (s0.2 + s0.1))) (2 ^ (min 1 64)))) < (↑a0.length : Int)) <|
  (d4v (get a0 ((wr .i64 (Int.fdiv (wr .u64 (wr .i64 (s0.2 + s0.1))) (2 ^ (min 1 64)))).toNat)) a1).bind fun v6 =>
  bif (decide (v6 < 0)) then
   some (.nxt (s0.1, (wr .i64 ((wr .i64 (Int.fdiv (wr .u64 (wr .i64 (s0.2 + s0.1))) (2 ^ (min 1 64)))) + 1))))
  else
   some (.nxt ((wr .i64 (Int.fdiv (wr .u64 (wr .i64 (s0.2 + s0.1))) (2 ^ (min 1 64)))), s0.2))
 else
  some (.brk s0.2)
def XY (a0 : (List XL)) (a1 : Int) (t0 : Int) : Option (Int × Bool) :=
 chk (d5N (decide (t0 < (↑a0.length : Int))) (0 ≤ t0) ∧ d5N (decide (t0 < (↑a0.length : Int))) (t0 < (↑a0.length : Int))) <|
 (gd (decide (t0 < (↑a0.length : Int))) (d4v (get a0 t0.toNat) a1) default).bind fun v10 =>
 some (t0, (bif (decide (t0 < (↑a0.length : Int))) then (decide (v10 = 0)) else false))
def XR (n : Nat) (a0 : (List XL)) (a1 : Int) : Option (Int × Bool) :=
 Xx (d0v (XW a0 a1) n ((↑a0.length : Int), 0)) (XY a0 a1)
def d4k (n : Nat) (a0 : Xg) (a1 : Int) (a2 : Int) : Option (Int) :=
 chk (0 ≤ a1 ∧ a1 < (↑a0.nodes.length : Int)) <|
 (XR n ((get a0.nodes a1.toNat).links) a2).bind fun v3 =>
 bif (!v3.2) then
  some (-1)
 else
  chk (0 ≤ v3.1 ∧ v3.1 < (↑(((get a0.nodes a1.toNat).links).length) : Int)) <|
  some ((get ((get a0.nodes a1.toNat).links) v3.1.toNat).to_)
def d1b (n : Nat) (a0 : Xg) (a1 : Int) (k0 : Nat) (s0 : Unit) : Option (Ctl (Bool) (Unit) (Unit)) :=
 (d4k n a0 0 (↑k0 : Int)).bind fun v1 =>
 bif (!decide ((decide (0 ≤ v1)) = (decide ((↑k0 : Int) ≤ a1)))) then
  some (.ret false)
 else
  some (.nxt ())
def d4d (t0 : Unit) : Option (Bool) :=
 some true
def d2C (n : Nat) (a0 : Xg) (a1 : Int) : Option (Bool) :=
 Xx (XO (d1b n a0 a1) 4 ()) (d4d)
def YI (a0 : Int) (d0F : Int) : Option (WM) :=
 some (WM.mk a0 d0F)
def d3h (self : (WK) → (Int) → (Int) → Option (Int × Int)) (a0 : WK) (a1 : Int) (k0 : Nat) (s0 : Int) : Option (Ctl (Int × Int) (Int) (Int)) :=
 (self (get a0.args k0) (wr .i64 (a1 + 1)) s0).bind fun v2 =>
 bif (!decide (v2.1 = 0)) then
  some (.ret (v2.1, v2.2))
 else
  some (.nxt v2.2)
def d3i (t0 : Int) : Option (Int × Int) :=
 some (0, t0)
def d1w : Nat → (WK) → (Int) → (Int) → Option (Int × Int)
 | 0, _, _, _ => none
 | n + 1, a0, a1, d0F =>
  bif (bif (decide (200 < (wr .i64 (d0F + 1)))) then true else (decide (40 < a1))) then
   some (1, (wr .i64 (d0F + 1)))
  else
   bif (!(bif (bif (bif (decide (a0.base = [101])) then true else (decide (a0.base = [116]))) then (decide ((↑a0.args.length : Int) = 0)) else false) then true else (bif (decide (a0.base = [])) then (decide ((↑a0.args.length : Int) = 2)) else false))) then
    some (5, (wr .i64 (d0F + 1)))
   else
    Xx (XO (d3h (d1w n) a0 a1) a0.args.length (wr .i64 (d0F + 1))) (d3i)
def d2T (n : Nat) (a0 : WK) : Option (WM) :=
 (d1w n a0 1 0).bind fun v1 =>
 some (WM.mk v1.1 0)
def d9b (a0 : WK) : Option (Bool) :=
 some (bif (decide (a0.base = [])) then (decide ((↑a0.args.length : Int) = 0)) else false)
def d1Z : Nat → (WO) → (Int) → (Int) → (Int) → Option (WM × Int)
 | 0, _, _, _, _ => none
 | n + 1, a0, a1, a2, d0F =>
  bif (bif (decide (200 < (wr .i64 (d0F + 1)))) then true else (decide (40 < a1))) then
   (YI 1 d0F).bind fun v1 =>
   some (v1, (wr .i64 (d0F + 1)))
  else
   bif (decide (a0.kind = 1)) then
    bif (bif (!decide (a0.index = 0)) then true else (!decide ((↑a0.args.length : Int) = 0))) then
     (YI 5 d0F).bind fun v2 =>
     some (v2, (wr .i64 (d0F + 1)))
    else
     (termName a0.name).bind fun v3 =>
     bif (!v3) then
      (YI 10 d0F).bind fun v4 =>
      some (v4, (wr .i64 (d0F + 1)))
     else
      (d2T n a0.type).bind fun v5 =>
      bif (!decide (v5.code = 0)) then
       (YI 12 d0F).bind fun v6 =>
       some (v6, (wr .i64 (d0F + 1)))
      else
       some ((WM.mk 0 0), (wr .i64 (d0F + 1)))
   else
    bif (decide (a0.kind = 2)) then
     (gd (!(!decide (a0.name = []))) (d9b a0.type) default).bind fun v7 =>
     bif (bif (bif (!decide (a0.name = [])) then true else (!v7)) then true else (!decide ((↑a0.args.length : Int) = 0))) then
      (YI 5 d0F).bind fun v8 =>
      some (v8, (wr .i64 (d0F + 1)))
     else
      bif (bif (decide (a0.index < 0)) then true else (decide (a2 ≤ a0.index))) then
       (YI 15 d0F).bind fun v9 =>
       some (v9, (wr .i64 (d0F + 1)))
      else
       some ((WM.mk 0 0), (wr .i64 (d0F + 1)))
    else
     bif (decide (a0.kind = 3)) then
      bif (bif (bif (!decide (a0.name = [])) then true else (!decide (a0.index = 0))) then true else (!decide ((↑a0.args.length : Int) = 1))) then
       (YI 5 d0F).bind fun v10 =>
       some (v10, (wr .i64 (d0F + 1)))
      else
       (d2T n a0.type).bind fun v11 =>
       bif (!decide (v11.code = 0)) then
        (YI 12 d0F).bind fun v12 =>
        some (v12, (wr .i64 (d0F + 1)))
       else
        chk (0 < (↑a0.args.length : Int)) <|
        (d1Z n (get a0.args 0) (wr .i64 (a1 + 1)) (wr .i64 (a2 + 1)) (wr .i64 (d0F + 1))).bind fun v14 =>
        some (v14.1, v14.2)
     else
      bif (decide (a0.kind = 4)) then
       (gd (!(bif (!decide (a0.name = [])) then true else (!decide (a0.index = 0)))) (d9b a0.type) default).bind fun v15 =>
       bif (bif (bif (bif (!decide (a0.name = [])) then true else (!decide (a0.index = 0))) then true else (!v15)) then true else (!decide ((↑a0.args.length : Int) = 2))) then
        (YI 5 d0F).bind fun v16 =>
        some (v16, (wr .i64 (d0F + 1)))
       else
        chk (0 < (↑a0.args.length : Int)) <|
        (d1Z n (get a0.args 0) (wr .i64 (a1 + 1)) a2 (wr .i64 (d0F + 1))).bind fun v18 =>
        bif (!decide (v18.1.code = 0)) then
         some (v18.1, v18.2)
        else
         chk (1 < (↑a0.args.length : Int)) <|
         (d1Z n (get a0.args 1) (wr .i64 (a1 + 1)) a2 v18.2).bind fun v20 =>
         some (v20.1, v20.2)
      else
       (YI 4 d0F).bind fun v21 =>
       some (v21, (wr .i64 (d0F + 1)))
def d5W (self : (WK) → (WK) → Option (Bool)) (a1 : WK) (a0 : WK) (k0 : Nat) (s0 : Unit) : Option (Ctl (Bool) (Unit) (Unit)) :=
 chk ((↑k0 : Int) < (↑a1.args.length : Int)) <|
 (self (get a0.args k0) (get a1.args k0)).bind fun v3 =>
 bif (!v3) then
  some (.ret false)
 else
  some (.nxt ())
def d5X (t0 : Unit) : Option (Bool) :=
 some true
def d2u : Nat → (WK) → (WK) → Option (Bool)
 | 0, _, _ => none
 | n + 1, a0, a1 =>
  bif (bif (!decide (a0.base = a1.base)) then true else (!decide ((↑a0.args.length : Int) = (↑a1.args.length : Int)))) then
   some false
  else
   chk (a0.args.length ≤ 9223372036854775807) <|
   Xx (XO (d5W (d2u n) a1 a0) a0.args.length ()) (d5X)
def d1y : Nat → (WO) → ((List WK)) → Option (WK × Bool)
 | 0, _, _ => none
 | n + 1, a0, l0 =>
  bif (decide (a0.kind = 1)) then
   some (a0.type, true)
  else
   bif (decide (a0.kind = 2)) then
    chk (0 ≤ (wr .i64 ((wr .i64 ((↑l0.length : Int) - 1)) - a0.index)) ∧ (wr .i64 ((wr .i64 ((↑l0.length : Int) - 1)) - a0.index)) < (↑l0.length : Int)) <|
    some ((get l0 ((wr .i64 ((wr .i64 ((↑l0.length : Int) - 1)) - a0.index)).toNat)), true)
   else
    bif (decide (a0.kind = 3)) then
     chk (0 ≤ (↑l0.length : Int) ∧ 0 ≤ (↑l0.length : Int)) <|
     d4y (l0 ++ [a0.type]) fun c8 =>
     chk (c8.length * 40 ≤ top ∧ c8.length ≤ top) <|
     chk (0 < (↑a0.args.length : Int)) <|
     (d1y n (get a0.args 0) c8).bind fun v14 =>
     some ((WK.mk [] [a0.type, v14.1]), v14.2)
    else
     chk (0 < (↑a0.args.length : Int)) <|
     (d1y n (get a0.args 0) l0).bind fun v17 =>
     chk (1 < (↑a0.args.length : Int)) <|
     (d1y n (get a0.args 1) l0).bind fun v19 =>
     chk (d5N (!(bif (bif (!v17.2) then true else (!v19.2)) then true else (!decide ((↑v17.1.args.length : Int) = 2)))) (0 < (↑v17.1.args.length : Int))) <|
     (gd (!(bif (bif (!v17.2) then true else (!v19.2)) then true else (!decide ((↑v17.1.args.length : Int) = 2)))) (d2u n (get v17.1.args 0) v19.1) default).bind fun v22 =>
     bif (bif (bif (bif (!v17.2) then true else (!v19.2)) then true else (!decide ((↑v17.1.args.length : Int) = 2))) then true else (!v22)) then
      some ((WK.mk [] []), false)
     else
      chk (1 < (↑v17.1.args.length : Int)) <|
      some ((get v17.1.args 1), true)
def d3U : Nat → (WO) → ((List WK)) → Option (WK × Bool)
 | 0, _, _ => none
 | n + 1, a0, a1 =>
  bif (decide (a0.kind = 1)) then
   some (a0.type, true)
  else
   bif (decide (a0.kind = 2)) then
    chk (0 ≤ (wr .i64 ((wr .i64 ((↑a1.length : Int) - 1)) - a0.index)) ∧ (wr .i64 ((wr .i64 ((↑a1.length : Int) - 1)) - a0.index)) < (↑a1.length : Int)) <|
    some ((get a1 ((wr .i64 ((wr .i64 ((↑a1.length : Int) - 1)) - a0.index)).toNat)), true)
   else
    bif (decide (a0.kind = 3)) then
     chk (0 ≤ (↑a1.length : Int) ∧ 0 ≤ (↑a1.length : Int)) <|
     d4y (a1 ++ [a0.type]) fun c6 =>
     chk (c6.length * 40 ≤ top ∧ c6.length ≤ top) <|
     chk (0 < (↑a0.args.length : Int)) <|
     (d1y n (get a0.args 0) c6).bind fun v12 =>
     some ((WK.mk [] [a0.type, v12.1]), v12.2)
    else
     chk (0 < (↑a0.args.length : Int)) <|
     (d3U n (get a0.args 0) a1).bind fun v15 =>
     chk (1 < (↑a0.args.length : Int)) <|
     (d3U n (get a0.args 1) a1).bind fun v17 =>
     chk (d5N (!(bif (bif (!v15.2) then true else (!v17.2)) then true else (!decide ((↑v15.1.args.length : Int) = 2)))) (0 < (↑v15.1.args.length : Int))) <|
     (gd (!(bif (bif (!v15.2) then true else (!v17.2)) then true else (!decide ((↑v15.1.args.length : Int) = 2)))) (d2u n (get v15.1.args 0) v17.1) default).bind fun v20 =>
     bif (bif (bif (bif (!v15.2) then true else (!v17.2)) then true else (!decide ((↑v15.1.args.length : Int) = 2))) then true else (!v20)) then
      some ((WK.mk [] []), false)
     else
      chk (1 < (↑v15.1.args.length : Int)) <|
      some ((get v15.1.args 1), true)
def d3s (n : Nat) (a0 : WO) : Option (WM) :=
 (d1Z n a0 1 0 0).bind fun v1 =>
 bif (!decide (v1.1.code = 0)) then
  some v1.1
 else
  (d3U n a0 []).bind fun v2 =>
  bif (!v2.2) then
   some (WM.mk 12 (-1))
  else
   some (WM.mk 0 0)
def d6x (n : Nat) (a0 : WU) (a1 : Xi) (a2 : WQ) : Option (Int) :=
 bif (bif (bif (bif (decide (a2.kids < 1)) then true else (decide (3 < a2.kids))) then true else (decide (a2.weight < 0))) then true else (decide (1000000 < a2.weight))) then
  some 3
 else
  (d4j n a0 a1 a2.graph).bind fun v1 =>
  bif (!decide (v1.code = 0)) then
   some v1.code
  else
   (d2C n a2.graph a2.kids).bind fun v2 =>
   bif (!v2) then
    some 5
   else
    (d3s n a2.meaning).bind fun v3 =>
    some v3.code
def Zd (a0 : Bs) (s0 : Nat × Int) : Option (Ctl (Int) (Nat × Int) (Int)) :=
 bif (decide (s0.1 < a0.length)) then
  some (.nxt ((s0.1 + d5t a0 s0.1), (wr .i64 (s0.2 + 1))))
 else
  some (.brk s0.2)
def d0D (t0 : Int) : Option (Int) :=
 some t0
def YT (n : Nat) (a0 : Bs) : Option (Int) :=
 Xx (d0v (Zd a0) n (0, 0)) (d0D)
def XS (a0 : Bs) : Option (Int) :=
 bif false then
  chk (0 < (↑a0.length : Int)) <|
  chk (1 < (↑a0.length : Int)) <|
  chk (2 < (↑a0.length : Int)) <|
  chk (3 < (↑a0.length : Int)) <|
  some (d0q .or .u64 (d0q .or .u64 (d0q .or .u64 (wr .u64 (Xd a0 0)) (wr .u64 ((wr .u64 (Xd a0 1)) * 2 ^ (min 8 64)))) (wr .u64 ((wr .u64 (Xd a0 2)) * 2 ^ (min 16 64)))) (wr .u64 ((wr .u64 (Xd a0 3)) * 2 ^ (min 24 64))))
 else
  chk (0 < (↑a0.length : Int)) <|
  chk (1 < (↑a0.length : Int)) <|
  chk (2 < (↑a0.length : Int)) <|
  chk (3 < (↑a0.length : Int)) <|
  chk (4 < (↑a0.length : Int)) <|
  chk (5 < (↑a0.length : Int)) <|
  chk (6 < (↑a0.length : Int)) <|
  chk (7 < (↑a0.length : Int)) <|
  some (d0q .or .u64 (d0q .or .u64 (d0q .or .u64 (d0q .or .u64 (d0q .or .u64 (d0q .or .u64 (d0q .or .u64 (wr .u64 (Xd a0 0)) (wr .u64 ((wr .u64 (Xd a0 1)) * 2 ^ (min 8 64)))) (wr .u64 ((wr .u64 (Xd a0 2)) * 2 ^ (min 16 64)))) (wr .u64 ((wr .u64 (Xd a0 3)) * 2 ^ (min 24 64)))) (wr .u64 ((wr .u64 (Xd a0 4)) * 2 ^ (min 32 64)))) (wr .u64 ((wr .u64 (Xd a0 5)) * 2 ^ (min 40 64)))) (wr .u64 ((wr .u64 (Xd a0 6)) * 2 ^ (min 48 64)))) (wr .u64 ((wr .u64 (Xd a0 7)) * 2 ^ (min 56 64))))
def YJ (j3 : Bs) : Option (Ctl (Bool) (Bs) (Unit)) :=
 some (.nxt j3)
def Zt (s4 : Bs) : Option (Ctl (Ctl (Bool) (Bs) (Unit)) (Bs) (Bs)) :=
 (gd (decide (32 < (↑s4.length : Int))) (XS s4) default).bind fun v100 =>
 chk (d5N (decide (32 < (↑s4.length : Int))) (8 ≤ s4.length)) <|
 (gd (decide (32 < (↑s4.length : Int))) (XS (s4.drop 8)) default).bind fun v103 =>
 chk (d5N (decide (32 < (↑s4.length : Int))) (16 ≤ s4.length)) <|
 (gd (decide (32 < (↑s4.length : Int))) (XS (s4.drop 16)) default).bind fun v106 =>
 chk (d5N (decide (32 < (↑s4.length : Int))) (0 ≤ 24) ∧ d5N (decide (32 < (↑s4.length : Int))) (24 ≤ s4.length)) <|
 (gd (decide (32 < (↑s4.length : Int))) (XS (s4.drop 24)) default).bind fun v110 =>
 bif (bif (decide (32 < (↑s4.length : Int))) then (decide ((d0q .and .u64 (d0q .or .u64 (d0q .or .u64 v100 v103) (d0q .or .u64 v106 v110)) 9259542123273814144) = 0)) else false) then
  chk (0 ≤ 32 ∧ 32 ≤ s4.length) <|
  some (.nxt (s4.drop 32))
 else
  some (.brk s4)
def d0G (t4 : Bs) : Option (Ctl (Bool) (Bs) (Unit)) :=
 YJ t4
def Zu (n : Nat) (s0 : Bs) : Option (Ctl (Bool) (Bs) (Unit)) :=
 bif (decide (0 < (↑s0.length : Int))) then
  chk (0 < (↑s0.length : Int)) <|
  bif (decide ((Xd s0 0) < 128)) then
   chk (0 ≤ 1 ∧ 1 ≤ s0.length) <|
   (gd (decide (8 < (↑((s0.drop 1).length) : Int))) (XS (s0.drop 1)) default).bind fun v78 =>
   bif (bif (decide (8 < (↑((s0.drop 1).length) : Int))) then (decide ((d0q .and .u64 v78 9259542123273814144) = 0)) else false) then
    chk (0 ≤ 8 ∧ 8 ≤ (s0.drop 1).length) <|
    (gd (decide (16 < (↑(((s0.drop 1).drop 8).length) : Int))) (XS ((s0.drop 1).drop 8)) default).bind fun v81 =>
    chk (d5N (decide (16 < (↑(((s0.drop 1).drop 8).length) : Int))) (8 ≤ ((s0.drop 1).drop 8).length)) <|
    (gd (decide (16 < (↑(((s0.drop 1).drop 8).length) : Int))) (XS (((s0.drop 1).drop 8).drop 8)) default).bind fun v84 =>
    bif (bif (decide (16 < (↑(((s0.drop 1).drop 8).length) : Int))) then (decide ((d0q .and .u64 (d0q .or .u64 v81 v84) 9259542123273814144) = 0)) else false) then
     chk (0 ≤ 16 ∧ 16 ≤ ((s0.drop 1).drop 8).length) <|
     Xx (d0v (Zt) n (((s0.drop 1).drop 8).drop 16)) (d0G)
    else
     YJ ((s0.drop 1).drop 8)
   else
    YJ (s0.drop 1)
  else
   chk (0 ≤ (Xd s0 0) ∧ (Xd s0 0) < 256) <|
   chk (0 ≤ (Int.fdiv (get d7y ((Xd s0 0).toNat)) (2 ^ (min 4 8))) ∧ (Int.fdiv (get d7y ((Xd s0 0).toNat)) (2 ^ (min 4 8))) < 16) <|
   bif (decide ((wr .i64 (d0q .and .u8 (get d7y ((Xd s0 0).toNat)) 7)) = 2)) then
    chk (d5N (!(decide ((↑s0.length : Int) < 2))) (1 < (↑s0.length : Int))) <|
    chk (d5N (!(bif (decide ((↑s0.length : Int) < 2)) then true else (decide ((Xd s0 1) < ((get d9H ((Int.fdiv (get d7y ((Xd s0 0).toNat)) (2 ^ (min 4 8))).toNat)).lo))))) (1 < (↑s0.length : Int))) <|
    bif (bif (bif (decide ((↑s0.length : Int) < 2)) then true else (decide ((Xd s0 1) < ((get d9H ((Int.fdiv (get d7y ((Xd s0 0).toNat)) (2 ^ (min 4 8))).toNat)).lo)))) then true else (decide (((get d9H ((Int.fdiv (get d7y ((Xd s0 0).toNat)) (2 ^ (min 4 8))).toNat)).hi) < (Xd s0 1)))) then
     some (.ret false)
    else
     chk (0 ≤ 2 ∧ 2 ≤ s0.length) <|
     some (.nxt (s0.drop 2))
   else
    bif (decide ((wr .i64 (d0q .and .u8 (get d7y ((Xd s0 0).toNat)) 7)) = 3)) then
     chk (d5N (!(decide ((↑s0.length : Int) < 3))) (1 < (↑s0.length : Int))) <|
     chk (d5N (!(bif (decide ((↑s0.length : Int) < 3)) then true else (decide ((Xd s0 1) < ((get d9H ((Int.fdiv (get d7y ((Xd s0 0).toNat)) (2 ^ (min 4 8))).toNat)).lo))))) (1 < (↑s0.length : Int))) <|
     chk (d5N (!(bif (bif (decide ((↑s0.length : Int) < 3)) then true else (decide ((Xd s0 1) < ((get d9H ((Int.fdiv (get d7y ((Xd s0 0).toNat)) (2 ^ (min 4 8))).toNat)).lo)))) then true else (decide (((get d9H ((Int.fdiv (get d7y ((Xd s0 0).toNat)) (2 ^ (min 4 8))).toNat)).hi) < (Xd s0 1))))) (2 < (↑s0.length : Int))) <|
     chk (d5N (!(bif (bif (bif (decide ((↑s0.length : Int) < 3)) then true else (decide ((Xd s0 1) < ((get d9H ((Int.fdiv (get d7y ((Xd s0 0).toNat)) (2 ^ (min 4 8))).toNat)).lo)))) then true else (decide (((get d9H ((Int.fdiv (get d7y ((Xd s0 0).toNat)) (2 ^ (min 4 8))).toNat)).hi) < (Xd s0 1)))) then true else (decide ((Xd s0 2) < 128)))) (2 < (↑s0.length : Int))) <|
     bif (bif (bif (bif (bif (decide ((↑s0.length : Int) < 3)) then true else (decide ((Xd s0 1) < ((get d9H ((Int.fdiv (get d7y ((Xd s0 0).toNat)) (2 ^ (min 4 8))).toNat)).lo)))) then true else (decide (((get d9H ((Int.fdiv (get d7y ((Xd s0 0).toNat)) (2 ^ (min 4 8))).toNat)).hi) < (Xd s0 1)))) then true else (decide ((Xd s0 2) < 128))) then true else (decide (191 < (Xd s0 2)))) then
      some (.ret false)
     else
      chk (0 ≤ 3 ∧ 3 ≤ s0.length) <|
      some (.nxt (s0.drop 3))
    else
     bif (decide ((wr .i64 (d0q .and .u8 (get d7y ((Xd s0 0).toNat)) 7)) = 4)) then
      chk (d5N (!(decide ((↑s0.length : Int) < 4))) (1 < (↑s0.length : Int))) <|
      chk (d5N (!(bif (decide ((↑s0.length : Int) < 4)) then true else (decide ((Xd s0 1) < ((get d9H ((Int.fdiv (get d7y ((Xd s0 0).toNat)) (2 ^ (min 4 8))).toNat)).lo))))) (1 < (↑s0.length : Int))) <|
      chk (d5N (!(bif (bif (decide ((↑s0.length : Int) < 4)) then true else (decide ((Xd s0 1) < ((get d9H ((Int.fdiv (get d7y ((Xd s0 0).toNat)) (2 ^ (min 4 8))).toNat)).lo)))) then true else (decide (((get d9H ((Int.fdiv (get d7y ((Xd s0 0).toNat)) (2 ^ (min 4 8))).toNat)).hi) < (Xd s0 1))))) (2 < (↑s0.length : Int))) <|
      chk (d5N (!(bif (bif (bif (decide ((↑s0.length : Int) < 4)) then true else (decide ((Xd s0 1) < ((get d9H ((Int.fdiv (get d7y ((Xd s0 0).toNat)) (2 ^ (min 4 8))).toNat)).lo)))) then true else (decide (((get d9H ((Int.fdiv (get d7y ((Xd s0 0).toNat)) (2 ^ (min 4 8))).toNat)).hi) < (Xd s0 1)))) then true else (decide ((Xd s0 2) < 128)))) (2 < (↑s0.length : Int))) <|
      chk (d5N (!(bif (bif (bif (bif (decide ((↑s0.length : Int) < 4)) then true else (decide ((Xd s0 1) < ((get d9H ((Int.fdiv (get d7y ((Xd s0 0).toNat)) (2 ^ (min 4 8))).toNat)).lo)))) then true else (decide (((get d9H ((Int.fdiv (get d7y ((Xd s0 0).toNat)) (2 ^ (min 4 8))).toNat)).hi) < (Xd s0 1)))) then true else (decide ((Xd s0 2) < 128))) then true else (decide (191 < (Xd s0 2))))) (3 < (↑s0.length : Int))) <|
      chk (d5N (!(bif (bif (bif (bif (bif (decide ((↑s0.length : Int) < 4)) then true else (decide ((Xd s0 1) < ((get d9H ((Int.fdiv (get d7y ((Xd s0 0).toNat)) (2 ^ (min 4 8))).toNat)).lo)))) then true else (decide (((get d9H ((Int.fdiv (get d7y ((Xd s0 0).toNat)) (2 ^ (min 4 8))).toNat)).hi) < (Xd s0 1)))) then true else (decide ((Xd s0 2) < 128))) then true else (decide (191 < (Xd s0 2)))) then true else (decide ((Xd s0 3) < 128)))) (3 < (↑s0.length : Int))) <|
      bif (bif (bif (bif (bif (bif (bif (decide ((↑s0.length : Int) < 4)) then true else (decide ((Xd s0 1) < ((get d9H ((Int.fdiv (get d7y ((Xd s0 0).toNat)) (2 ^ (min 4 8))).toNat)).lo)))) then true else (decide (((get d9H ((Int.fdiv (get d7y ((Xd s0 0).toNat)) (2 ^ (min 4 8))).toNat)).hi) < (Xd s0 1)))) then true else (decide ((Xd s0 2) < 128))) then true else (decide (191 < (Xd s0 2)))) then true else (decide ((Xd s0 3) < 128))) then true else (decide (191 < (Xd s0 3)))) then
       some (.ret false)
      else
       chk (0 ≤ 4 ∧ 4 ≤ s0.length) <|
       some (.nxt (s0.drop 4))
     else
      some (.ret false)
 else
  some (.brk ())
def d2e (t0 : Unit) : Option (Bool) :=
 some true
def d0w (n : Nat) (a0 : Bs) : Option (Bool) :=
 Xx (d0v (Zu n) n a0) (d2e)
def d2N (a0 : Bs) (a1 : Int) : Option (Int) :=
 (indexByte a0 a1).bind fun v1 =>
 some v1
def d2n (a0 : Int) : Option (Bool) :=
 bif (bif (decide (0 ≤ a0)) then (decide (a0 < 55296)) else false) then
  some true
 else
  bif (bif (decide (57343 < a0)) then (decide (a0 ≤ 1114111)) else false) then
   some true
  else
   some false
def d2E (a0 : Bs) (s0 : Nat) : Option (Ctl (Int) (Nat) (Unit)) :=
 bif (decide (s0 < a0.length)) then
  chk (s0 < a0.length) <|
  bif (decide ((rune a0 s0) = 65533)) then
   some (.ret (↑s0 : Int))
  else
   some (.nxt (s0 + d5t a0 s0))
 else
  some (.brk ())
def d4n (t0 : Unit) : Option (Int) :=
 some (-1)
def d4o (a1 : Int) (j2 : Int) (a0 : Bs) (s3 : Int) : Option (Ctl (Ctl (Int) (Unit) (Unit)) (Int) (Unit)) :=
 bif (decide (s3 < (↑((YC a1).length) : Int))) then
  chk (0 ≤ (wr .i64 (j2 - s3)) ∧ (wr .i64 (j2 - s3)) < (↑a0.length : Int)) <|
  chk (0 ≤ (wr .i64 ((wr .i64 ((↑((YC a1).length) : Int) - 1)) - s3)) ∧ (wr .i64 ((wr .i64 ((↑((YC a1).length) : Int) - 1)) - s3)) < (↑((YC a1).length) : Int)) <|
  bif (!decide ((Xd a0 (wr .i64 (j2 - s3))) = (Xd (YC a1) (wr .i64 ((wr .i64 ((↑((YC a1).length) : Int) - 1)) - s3))))) then
   none
  else
   some (.nxt (wr .i64 (s3 + 1)))
 else
  some (.brk ())
def d4p (j2 : Int) (a1 : Int) (t3 : Unit) : Option (Ctl (Int) (Unit) (Unit)) :=
 some (.ret (wr .i64 (j2 - (wr .i64 ((↑((YC a1).length) : Int) - 1)))))
def d2H (n : Nat) (a1 : Int) (a0 : Bs) (j2 : Int) : Option (Ctl (Int) (Unit) (Unit)) :=
 Xx (d0v (d4o a1 j2 a0) n 1) (d4p j2 a1)
def d1z (n : Nat) (a1 : Int) (a0 : Bs) (s1 : Unit) : Option (Ctl (Int) (Unit) (Unit)) :=
 bif (decide ((wr .i64 ((↑((YC a1).length) : Int) - 1)) < (↑a0.length : Int))) then
  chk (0 ≤ (wr .i64 ((↑((YC a1).length) : Int) - 1)) ∧ (wr .i64 ((↑((YC a1).length) : Int) - 1)) < (↑a0.length : Int)) <|
  chk ((wr .i64 ((↑((YC a1).length) : Int) - 1)) < (↑((YC a1).length) : Int)) <|
  bif (!decide ((Xd a0 (wr .i64 ((↑((YC a1).length) : Int) - 1))) = (Xd (YC a1) (wr .i64 ((↑((YC a1).length) : Int) - 1))))) then
   chk (0 ≤ (wr .i64 ((wr .i64 ((↑((YC a1).length) : Int) - 1)) + 1)) ∧ (wr .i64 ((wr .i64 ((↑((YC a1).length) : Int) - 1)) + 1)).toNat ≤ a0.length) <|
   (d2N (a0.drop ((wr .i64 ((wr .i64 ((↑((YC a1).length) : Int) - 1)) + 1)).toNat)) (Xd (YC a1) (wr .i64 ((↑((YC a1).length) : Int) - 1)))).bind fun v10 =>
   bif (decide (v10 < 0)) then
    some (.ret (-1))
   else
    d2H n a1 a0 (wr .i64 ((wr .i64 ((↑((YC a1).length) : Int) - 1)) + (wr .i64 (v10 + 1))))
  else
   d2H n a1 a0 (wr .i64 ((↑((YC a1).length) : Int) - 1))
 else
  some (.brk ())
def d4q (t1 : Unit) : Option (Int) :=
 some (-1)
def d1R (n : Nat) (a0 : Bs) (a1 : Int) : Option (Int) :=
 bif (bif (decide (0 ≤ a1)) then (decide (a1 < 128)) else false) then
  (d2N a0 (wr .u8 a1)).bind fun v1 =>
  some v1
 else
  bif (decide (a1 = 65533)) then
   Xx (d0v (d2E a0) n 0) (d4n)
  else
   (d2n a1).bind fun v4 =>
   bif (!v4) then
    some (-1)
   else
    Xx (d0v (d1z n a1 a0) n ()) (d4q)
def d2x (a0 : Int) : Option (Bool) :=
 some (decide (8 < a0))
def d2I (n : Nat) (a0 : Bs) (j0 : Int) : Option (Int) :=
 (d1R n a0 j0).bind fun v2 =>
 some v2
def d2G (n : Nat) (a0 : Bs) (a1 : Bs) (s2 : Nat) : Option (Ctl (Int) (Nat) (Unit)) :=
 bif (decide (s2 < a0.length)) then
  chk (s2 < a0.length) <|
  (d1R n a1 (rune a0 s2)).bind fun v7 =>
  bif (decide (0 ≤ v7)) then
   some (.ret (↑s2 : Int))
  else
   some (.nxt (s2 + d5t a0 s2))
 else
  some (.brk ())
def d4r (t2 : Unit) : Option (Int) :=
 some (-1)
def d2F (n : Nat) (a0 : Bs) (a1 : Bs) (j1 : Unit) : Option (Int) :=
 Xx (d0v (d2G n a0 a1) n 0) (d4r)
def d4f (n : Nat) (a0 : Bs) (a1 : Bs) : Option (Int) :=
 bif (decide (a1 = [])) then
  some (-1)
 else
  bif (decide ((↑a1.length : Int) = 1)) then
   chk (0 < (↑a1.length : Int)) <|
   bif (decide (128 ≤ (wr .i32 (Xd a1 0)))) then
    d2I n a0 65533
   else
    d2I n a0 (wr .i32 (Xd a1 0))
  else
   (d2x (↑a0.length : Int)).bind fun v3 =>
   bif v3 then
    none
   else
    d2F n a0 a1 ()
def d4L (n : Nat) (a0 : Bs) (a1 : Bs) : Option (Int) :=
 bif decide (8 < a0.length) then chk (2 ≤ a1.length ∧ a0.length < 4294967281 ∧ a1.length < 4294967281 ∧ a1.all (fun b => decide (b.toNat < 128)) = true) (some (Lib.indexAny a0 a1))
 else d4f n a0 a1
def d0Z (n : Nat) (a0 : Bs) (a1 : Bs) : Option (Bool) :=
 (d4L n a0 a1).bind fun v1 =>
 some (decide (0 ≤ v1))
def d6w (n : Nat) (a0 : Bs) : Option (Bool) :=
 (YT n a0).bind fun v1 =>
 (gd (bif (decide (1 ≤ v1)) then (decide (v1 ≤ 30)) else false) (d0w n a0) default).bind fun v2 =>
 (gd (bif (bif (decide (1 ≤ v1)) then (decide (v1 ≤ 30)) else false) then v2 else false) (d0Z n a0 [32, 9, 10, 40, 41, 91, 93, 44, 59]) default).bind fun v3 =>
 some (bif (bif (bif (decide (1 ≤ v1)) then (decide (v1 ≤ 30)) else false) then v2 else false) then (!v3) else false)
def d5y (n : Nat) (a0 : WU) (a1 : Xi) (a2 : XE) : Option (Int) :=
 (d6w n a2.word).bind fun v1 =>
 bif (!v1) then
  some 10
 else
  bif (bif (decide (a2.weight < 0)) then true else (decide (1000000 < a2.weight))) then
   some 3
  else
   (d4j n a0 a1 a2.graph).bind fun v2 =>
   bif (!decide (v2.code = 0)) then
    some v2.code
   else
    (d3s n a2.meaning).bind fun v3 =>
    some v3.code
def d3j (n : Nat) (a0 : Xa) (v4 : Xi) (k0 : Nat) (s0 : (List (Bs × Int))) : Option (Ctl (WM) ((List (Bs × Int))) ((List (Bs × Int)))) :=
 (termName ((get a0.rules k0).name)).bind fun v12 =>
 bif (!v12) then
  (d1q 10 (↑k0 : Int)).bind fun v13 =>
  some (.ret v13)
 else
  bif (assoc ((get a0.rules k0).name) s0).isSome then
   (d1q 7 (↑k0 : Int)).bind fun v14 =>
   some (.ret v14)
  else
   d4y (YH ((get a0.rules k0).name) (↑k0 : Int) s0) fun c15 =>
   (d6x n a0.hierarchy v4 (get a0.rules k0)).bind fun v17 =>
   bif (!decide (v17 = 0)) then
    (d1q v17 (↑k0 : Int)).bind fun v18 =>
    some (.ret v18)
   else
    some (.nxt c15)
def d3l (n : Nat) (a0 : Xa) (v4 : Xi) (k1 : Nat) (s1 : Unit) : Option (Ctl (WM) (Unit) (Unit)) :=
 (d5y n a0.hierarchy v4 (get a0.Xj k1)).bind fun v19 =>
 bif (!decide (v19 = 0)) then
  (d1q v19 (↑k1 : Int)).bind fun v20 =>
  some (.ret v20)
 else
  some (.nxt ())
def d3m (n : Nat) (a0 : Xa) (v4 : Xi) (t1 : Unit) : Option (WM) :=
 (d4j n a0.hierarchy v4 a0.start).bind fun v21 =>
 bif (!decide (v21.code = 0)) then
  (d1q v21.code (-1)).bind fun v22 =>
  some v22
 else
  some (WM.mk 0 0)
def d3k (n : Nat) (a0 : Xa) (v4 : Xi) (t0 : (List (Bs × Int))) : Option (WM) :=
 Xx (XO (d3l n a0 v4) a0.Xj.length ()) (d3m n a0 v4)
def d2v (n : Nat) (a0 : Xa) : Option (WM) :=
 (d2t a0.hierarchy).bind fun v1 =>
 bif (!decide (v1.code = 0)) then
  some v1
 else
  bif (decide ((↑a0.hierarchy.Xw.length : Int) ≤ 3)) then
   (d1q 9 (-1)).bind fun v2 =>
   some v2
  else
   bif (bif (decide (40 < (↑a0.rules.length : Int))) then true else (decide (100 < (↑a0.Xj.length : Int)))) then
    (d1q 2 (-1)).bind fun v3 =>
    some v3
   else
    (d2s a0.hierarchy.types).bind fun v4 =>
    Xx (XO (d3j n a0 v4) a0.rules.length []) (d3k n a0 v4)
def d1F (a0 : Bs) (k0 : Nat) (s0 : Unit) : Option (Ctl (Bool) (Unit) (Unit)) :=
 bif (bif (!(bif (decide (97 ≤ (get (bytesOf a0) k0))) then (decide ((get (bytesOf a0) k0) ≤ 122)) else false)) then (bif (!(bif (bif (bif (decide (48 ≤ (get (bytesOf a0) k0))) then (decide ((get (bytesOf a0) k0) ≤ 57)) else false) then true else (decide ((get (bytesOf a0) k0) = 95))) then true else (decide ((get (bytesOf a0) k0) = 45)))) then true else (decide ((↑k0 : Int) = 0))) else false) then
  some (.ret false)
 else
  some (.nxt ())
def d1G (t0 : Unit) : Option (Bool) :=
 some true
def ZL (a0 : Bs) : Option (Bool) :=
 bif (bif (decide ((↑a0.length : Int) < 1)) then true else (decide (30 < (↑a0.length : Int)))) then
  some false
 else
  chk (a0.length ≤ top) <|
  Xx (XO (d1F a0) ((bytesOf a0).length) ()) (d1G)
def YS (a0 : (List WT)) (k0 : Nat) (k3 : Nat) (s3 : Unit) : Option (Ctl (Ctl (WM) (Unit) (Unit)) (Unit) (Unit)) :=
 bif (decide (((get (a0.take k0) k3).name) = ((get a0 k0).name))) then
  some (.ret (.ret (WM.mk 7 (↑k0 : Int))))
 else
  some (.nxt ())
def ZR (a0 : (List WT)) (k0 : Nat) (k4 : Nat) (s4 : Unit) : Option (Ctl (Ctl (WM) (Unit) (Unit)) (Unit) (Unit)) :=
 bif (bif (decide ((get ((get a0 k0).parents) k4) < 0)) then true else (decide ((↑k0 : Int) ≤ (get ((get a0 k0).parents) k4)))) then
  some (.ret (.ret (WM.mk 3 (↑k0 : Int))))
 else
  chk (d5N (decide (0 < (↑k4 : Int))) (0 ≤ (wr .i64 ((↑k4 : Int) - 1))) ∧ d5N (decide (0 < (↑k4 : Int))) ((wr .i64 ((↑k4 : Int) - 1)) < (↑(((get a0 k0).parents).length) : Int))) <|
  bif (bif (decide (0 < (↑k4 : Int))) then (decide ((get ((get a0 k0).parents) k4) ≤ (get ((get a0 k0).parents) ((wr .i64 ((↑k4 : Int) - 1)).toNat)))) else false) then
   some (.ret (.ret (WM.mk 13 (↑k0 : Int))))
  else
   some (.nxt ())
def ZS (t4 : Unit) : Option (Ctl (WM) (Unit) (Unit)) :=
 some (.nxt ())
def ZQ (k0 : Nat) (a0 : (List WT)) (t3 : Unit) : Option (Ctl (WM) (Unit) (Unit)) :=
 bif (!decide ((decide ((↑k0 : Int) = 0)) = (decide ((↑(((get a0 k0).parents).length) : Int) = 0)))) then
  some (.ret (WM.mk 5 (↑k0 : Int)))
 else
  Xx (XO (ZR a0 k0) (((get a0 k0).parents).length) ()) (ZS)
def ZP (a0 : (List WT)) (k0 : Nat) (s0 : Unit) : Option (Ctl (WM) (Unit) (Unit)) :=
 (ZL ((get a0 k0).name)).bind fun v10 =>
 bif (!v10) then
  some (.ret (WM.mk 10 (↑k0 : Int)))
 else
  chk (0 ≤ (↑k0 : Int) ∧ k0 ≤ a0.length) <|
  Xx (XO (YS a0 k0) ((a0.take k0).length) ()) (ZQ k0 a0)
def d1o (t0 : Unit) : Option (WM) :=
 some (WM.mk 0 0)
def Ym (a0 : (List WT)) : Option (WM) :=
 bif (bif (decide ((↑a0.length : Int) = 0)) then true else (decide (60 < (↑a0.length : Int)))) then
  some (WM.mk 2 (-1))
 else
  Xx (XO (ZP a0) a0.length ()) (d1o)
def i0p (n : Nat) (a0 : List WT) : Option (List (List Bool)) :=
 chk (a0.length * 24 ≤ top) <|
 chk (((List.range a0.length).all fun i => (List.range a0.length).all fun j => (XJ n a0 (i : Int) (j : Int)).isSome) = true) <|
 some (tf a0.length a0.length fun (i j : Nat) => (XJ n a0 (i : Int) (j : Int)).getD false)
def d1j (v1 : (List (List Bool))) (k4 : Nat) (k0 : Nat) (k5 : Nat) (s5 : Int) : Option (Ctl (Ctl (Ctl (Int) (Unit) (Unit)) (Unit) (Unit)) (Int) (Int)) :=
 chk ((↑k5 : Int) < (↑v1.length : Int)) <|
 chk ((↑k4 : Int) < (↑((get v1 k5).length) : Int)) <|
 chk (d5N (get (get v1 k5) k4) (k0 < ((get v1 k5).length))) <|
 bif (bif (get (get v1 k5) k4) then (get (get v1 k5) k0) else false) then
  bif (decide (s5 < 0)) then
   some (.nxt (↑k5 : Int))
  else
   chk (0 ≤ s5 ∧ s5 < (↑((get v1 k5).length) : Int)) <|
   bif (!(get (get v1 k5) s5.toNat)) then
    some (.ret (.ret (.ret (↑k0 : Int))))
   else
    some (.nxt s5)
 else
  some (.nxt s5)
def d1k (t5 : Int) : Option (Ctl (Ctl (Int) (Unit) (Unit)) (Unit) (Unit)) :=
 some (.nxt ())
def d1i (a0 : (List WT)) (v1 : (List (List Bool))) (k0 : Nat) (k4 : Nat) (s4 : Unit) : Option (Ctl (Ctl (Int) (Unit) (Unit)) (Unit) (Unit)) :=
 chk (a0.length ≤ 9223372036854775807) <|
 Xx (XO (d1j v1 k4 k0) a0.length (-1)) (d1k)
def d1l (t4 : Unit) : Option (Ctl (Int) (Unit) (Unit)) :=
 some (.nxt ())
def d1h (a0 : (List WT)) (v1 : (List (List Bool))) (k0 : Nat) (s0 : Unit) : Option (Ctl (Int) (Unit) (Unit)) :=
 chk (k0 ≤ 9223372036854775807) <|
 Xx (XO (d1i a0 v1 k0) k0 ()) (d1l)
def d1m (t0 : Unit) : Option (Int) :=
 some (-1)
def d1f (n : Nat) (a0 : (List WT)) : Option (Int) :=
 (i0p n a0).bind fun v1 =>
 chk (a0.length ≤ 9223372036854775807) <|
 Xx (XO (d1h a0 v1) a0.length ()) (d1m)
def Yp (a0 : WU) (k0 : Nat) (k2 : Nat) (s2 : Unit) : Option (Ctl (Ctl (WM) (Unit) (Unit)) (Unit) (Unit)) :=
 bif (decide (((get (a0.Xw.take k0) k2).name) = ((get a0.Xw k0).name))) then
  some (.ret (.ret (WM.mk 7 (↑k0 : Int))))
 else
  some (.nxt ())
def YX (a0 : WU) (k0 : Nat) (t2 : Unit) : Option (Ctl (WM) (Unit) (Unit)) :=
 bif (bif (bif (bif (decide (((get a0.Xw k0).of_) < 0)) then true else (decide ((↑a0.types.length : Int) ≤ ((get a0.Xw k0).of_)))) then true else (decide (((get a0.Xw k0).value) < 0))) then true else (decide ((↑a0.types.length : Int) ≤ ((get a0.Xw k0).value)))) then
  some (.ret (WM.mk 3 (↑k0 : Int)))
 else
  some (.nxt ())
def Yo (a0 : WU) (k0 : Nat) (s0 : Unit) : Option (Ctl (WM) (Unit) (Unit)) :=
 (ZL ((get a0.Xw k0).name)).bind fun v6 =>
 bif (!v6) then
  some (.ret (WM.mk 10 (↑k0 : Int)))
 else
  chk (0 ≤ (↑k0 : Int) ∧ k0 ≤ a0.Xw.length) <|
  Xx (XO (Yp a0 k0) ((a0.Xw.take k0).length) ()) (YX a0 k0)
def YW (t0 : Unit) : Option (WM) :=
 some (WM.mk 0 0)
def YE (n : Nat) (a0 : WU) : Option (WM) :=
 bif (decide (40 < (↑a0.Xw.length : Int))) then
  some (WM.mk 2 (-1))
 else
  (Ym a0.types).bind fun v1 =>
  bif (!decide (v1.code = 0)) then
   some v1
  else
   (d1f n a0.types).bind fun v2 =>
   bif (decide (0 ≤ v2)) then
    some (WM.mk 16 v2)
   else
    Xx (XO (Yo a0) a0.Xw.length ()) (YW)
def ZU (a1 : Xg) (k0 : Nat) (a0 : WU) (k2 : Nat) (s2 : Unit) : Option (Ctl (Ctl (WM) (Unit) (Unit)) (Unit) (Unit)) :=
 bif (bif (bif (bif (decide (((get ((get a1.nodes k0).links) k2).d4T) < 0)) then true else (decide ((↑a0.Xw.length : Int) ≤ ((get ((get a1.nodes k0).links) k2).d4T)))) then true else (decide (((get ((get a1.nodes k0).links) k2).to_) < 0))) then true else (decide ((↑a1.nodes.length : Int) ≤ ((get ((get a1.nodes k0).links) k2).to_)))) then
  some (.ret (.ret (WM.mk 3 (↑k0 : Int))))
 else
  chk (d5N (decide (0 < (↑k2 : Int))) (0 ≤ (wr .i64 ((↑k2 : Int) - 1))) ∧ d5N (decide (0 < (↑k2 : Int))) ((wr .i64 ((↑k2 : Int) - 1)) < (↑(((get a1.nodes k0).links).length) : Int))) <|
  bif (bif (decide (0 < (↑k2 : Int))) then (decide (((get ((get a1.nodes k0).links) k2).d4T) ≤ ((get ((get a1.nodes k0).links) ((wr .i64 ((↑k2 : Int) - 1)).toNat)).d4T))) else false) then
   some (.ret (.ret (WM.mk 13 (↑k0 : Int))))
  else
   some (.nxt ())
def ZV (t2 : Unit) : Option (Ctl (WM) (Unit) (Unit)) :=
 some (.nxt ())
def ZT (a1 : Xg) (a0 : WU) (k0 : Nat) (s0 : Unit) : Option (Ctl (WM) (Unit) (Unit)) :=
 bif (bif (decide (((get a1.nodes k0).type) < 0)) then true else (decide ((↑a0.types.length : Int) ≤ ((get a1.nodes k0).type)))) then
  some (.ret (WM.mk 3 (↑k0 : Int)))
 else
  Xx (XO (ZU a1 k0 a0) (((get a1.nodes k0).links).length) ()) (ZV)
def d1p (t0 : Unit) : Option (WM) :=
 some (WM.mk 0 0)
def Zr (a0 : WU) (a1 : Xg) : Option (WM) :=
 bif (bif (decide ((↑a1.nodes.length : Int) = 0)) then true else (decide (60 < (↑a1.nodes.length : Int)))) then
  some (WM.mk 2 (-2))
 else
  Xx (XO (ZT a1 a0) a1.nodes.length ()) (d1p)
def d0d (k4 : Nat) (a0 : Xg) (k6 : Nat) (s6 : (List Bool)) : Option (Ctl (Ctl (Ctl (Int) ((List Bool)) ((List Bool))) ((List Bool)) ((List Bool))) ((List Bool)) ((List Bool))) :=
 chk ((↑k4 : Int) < (↑s6.length : Int)) <|
 bif (get s6 k4) then
  chk (0 ≤ (get ((get a0.nodes k4).links) k6).to_ ∧ (get ((get a0.nodes k4).links) k6).to_ < (↑s6.length : Int)) <|
  d4y (s6.set (((get ((get a0.nodes k4).links) k6).to_).toNat) true) fun c88 =>
  some (.nxt c88)
 else
  some (.nxt s6)
def d0e (t6 : (List Bool)) : Option (Ctl (Ctl (Int) ((List Bool)) ((List Bool))) ((List Bool)) ((List Bool))) :=
 some (.nxt t6)
def d0c (a0 : Xg) (k4 : Nat) (s4 : (List Bool)) : Option (Ctl (Ctl (Int) ((List Bool)) ((List Bool))) ((List Bool)) ((List Bool))) :=
 Xx (XO (d0d k4 a0) (((get a0.nodes k4).links).length) s4) (d0e)
def d0f (t4 : (List Bool)) : Option (Ctl (Int) ((List Bool)) ((List Bool))) :=
 some (.nxt t4)
def d0b (a0 : Xg) (k0 : Nat) (s0 : (List Bool)) : Option (Ctl (Int) ((List Bool)) ((List Bool))) :=
 Xx (XO (d0c a0) a0.nodes.length s0) (d0f)
def d0g (t0 : (List Bool)) : Option (Int) :=
 (YD t0 false).bind fun v91 =>
 some v91
def YU (a0 : Xg) : Option (Int) :=
 chk (a0.nodes.length * 1 ≤ top ∧ a0.nodes.length ≤ top) <|
 chk (0 < (↑a0.nodes.length : Int)) <|
 d4y ((List.replicate a0.nodes.length (default : Bool)).set 0 true) fun c7 =>
 chk (a0.nodes.length ≤ 9223372036854775807) <|
 Xx (XO (d0b a0) a0.nodes.length c7) (d0g)
def ZE (n : Nat) (a1 : Xg) (k0 : Nat) (a0 : WU) (k2 : Nat) (s2 : Unit) : Option (Ctl (Ctl (WM) (Unit) (Unit)) (Unit) (Unit)) :=
 chk (0 ≤ (get ((get a1.nodes k0).links) k2).d4T ∧ (get ((get a1.nodes k0).links) k2).d4T < (↑a0.Xw.length : Int)) <|
 (XJ n a0.types ((get a1.nodes k0).type) ((get a0.Xw (((get ((get a1.nodes k0).links) k2).d4T).toNat)).of_)).bind fun v25 =>
 chk (d5N (!(!v25)) (0 ≤ (get ((get a1.nodes k0).links) k2).to_) ∧ d5N (!(!v25)) ((get ((get a1.nodes k0).links) k2).to_ < (↑a1.nodes.length : Int))) <|
 (gd (!(!v25)) (XJ n a0.types ((get a1.nodes (((get ((get a1.nodes k0).links) k2).to_).toNat)).type) ((get a0.Xw (((get ((get a1.nodes k0).links) k2).d4T).toNat)).value)) default).bind fun v29 =>
 bif (bif (!v25) then true else (!v29)) then
  some (.ret (.ret (WM.mk 12 (↑k0 : Int))))
 else
  some (.nxt ())
def ZF (t2 : Unit) : Option (Ctl (WM) (Unit) (Unit)) :=
 some (.nxt ())
def ZD (n : Nat) (a1 : Xg) (a0 : WU) (k0 : Nat) (s0 : Unit) : Option (Ctl (WM) (Unit) (Unit)) :=
 Xx (XO (ZE n a1 k0 a0) (((get a1.nodes k0).links).length) ()) (ZF)
def ZG (a1 : Xg) (t0 : Unit) : Option (WM) :=
 (YU a1).bind fun v30 =>
 bif (decide (0 ≤ v30)) then
  some (WM.mk 5 v30)
 else
  some (WM.mk 0 0)
def Yh (n : Nat) (a0 : WU) (a1 : Xg) : Option (WM) :=
 (Zr a0 a1).bind fun v1 =>
 bif (!decide (v1.code = 0)) then
  some v1
 else
  Xx (XO (ZD n a1 a0) a1.nodes.length ()) (ZG a1)
def d0W (a0 : Xg) (a1 : Int) (a2 : Int) (k0 : Nat) (s0 : Unit) : Option (Ctl (Int) (Unit) (Unit)) :=
 bif (decide (((get ((get a0.nodes a1.toNat).links) k0).d4T) = a2)) then
  some (.ret ((get ((get a0.nodes a1.toNat).links) k0).to_))
 else
  some (.nxt ())
def d0X (t0 : Unit) : Option (Int) :=
 some (-1)
def Za (a0 : Xg) (a1 : Int) (a2 : Int) : Option (Int) :=
 chk (0 ≤ a1 ∧ a1 < (↑a0.nodes.length : Int)) <|
 Xx (XO (d0W a0 a1 a2) (((get a0.nodes a1.toNat).links).length) ()) (d0X)
def d0R (a0 : WK) : Option (Bool) :=
 some (bif (decide (a0.base = [])) then (decide ((↑a0.args.length : Int) = 0)) else false)
def d1I (a0 : Bs) (s0 : Int) : Option (Ctl (Bool) (Int) (Unit)) :=
 bif (decide (s0 < (↑a0.length : Int))) then
  chk (0 ≤ s0 ∧ s0 < (↑a0.length : Int)) <|
  bif (bif (!(bif (decide (97 ≤ (Xd a0 s0))) then (decide ((Xd a0 s0) ≤ 122)) else false)) then (bif (decide (s0 = 0)) then true else (!(bif (bif (bif (decide (48 ≤ (Xd a0 s0))) then (decide ((Xd a0 s0) ≤ 57)) else false) then true else (decide ((Xd a0 s0) = 95))) then true else (decide ((Xd a0 s0) = 45))))) else false) then
   some (.ret false)
  else
   some (.nxt (wr .i64 (s0 + 1)))
 else
  some (.brk ())
def d2Y (t0 : Unit) : Option (Bool) :=
 some true
def d1x (n : Nat) (a0 : Bs) : Option (Bool) :=
 bif (bif (decide ((↑a0.length : Int) < 1)) then true else (decide (30 < (↑a0.length : Int)))) then
  some false
 else
  Xx (d0v (d1I a0) n 0) (d2Y)
def XH (s0 : (List WW) × Int × Nat) : Option (Ctl (Int) ((List WW) × Int × Nat) (Unit)) :=
 bif (decide (0 < (↑s0.2.2 : Int))) then
  chk (s0.2.2 ≤ s0.1.length) <|
  chk (0 ≤ (wr .i64 ((↑s0.2.2 : Int) - 1)) ∧ (wr .i64 ((↑s0.2.2 : Int) - 1)) < (↑s0.2.2 : Int)) <|
  chk ((wr .i64 ((↑s0.2.2 : Int) - 1)).toNat ≤ s0.2.2) <|
  bif (bif (decide (200 < (wr .i64 (s0.2.1 + 1)))) then true else (decide (40 < ((get s0.1 ((wr .i64 ((↑s0.2.2 : Int) - 1)).toNat)).depth)))) then
   some (.ret 1)
  else
   bif (decide (((get s0.1 ((wr .i64 ((↑s0.2.2 : Int) - 1)).toNat)).s.base) = [])) then
    bif (!decide ((↑(((get s0.1 ((wr .i64 ((↑s0.2.2 : Int) - 1)).toNat)).s.args).length) : Int) = 2)) then
     some (.ret 5)
    else
     chk (1 < (↑(((get s0.1 ((wr .i64 ((↑s0.2.2 : Int) - 1)).toNat)).s.args).length) : Int)) <|
     chk (0 < (↑(((get s0.1 ((wr .i64 ((↑s0.2.2 : Int) - 1)).toNat)).s.args).length) : Int)) <|
     chk ((wr .i64 ((↑s0.2.2 : Int) - 1)).toNat ≤ s0.1.length) <|
     d4y ((s0.1.take ((wr .i64 ((↑s0.2.2 : Int) - 1)).toNat)) ++ [(WW.mk (get ((get s0.1 ((wr .i64 ((↑s0.2.2 : Int) - 1)).toNat)).s.args) 1) (wr .i64 (((get s0.1 ((wr .i64 ((↑s0.2.2 : Int) - 1)).toNat)).depth) + 1))), (WW.mk (get ((get s0.1 ((wr .i64 ((↑s0.2.2 : Int) - 1)).toNat)).s.args) 0) (wr .i64 (((get s0.1 ((wr .i64 ((↑s0.2.2 : Int) - 1)).toNat)).depth) + 1)))]) fun c25 =>
     chk (c25.length * 48 ≤ top ∧ c25.length ≤ top) <|
     some (.nxt (c25, (wr .i64 (s0.2.1 + 1)), c25.length))
   else
    bif (bif (bif (!decide (((get s0.1 ((wr .i64 ((↑s0.2.2 : Int) - 1)).toNat)).s.base) = [101])) then (!decide (((get s0.1 ((wr .i64 ((↑s0.2.2 : Int) - 1)).toNat)).s.base) = [116])) else false) then true else (!decide ((↑(((get s0.1 ((wr .i64 ((↑s0.2.2 : Int) - 1)).toNat)).s.args).length) : Int) = 0))) then
     some (.ret 5)
    else
     some (.nxt (s0.1, (wr .i64 (s0.2.1 + 1)), (wr .i64 ((↑s0.2.2 : Int) - 1)).toNat))
 else
  some (.brk ())
def ZH (t0 : Unit) : Option (Int) :=
 some 0
def Zg (n : Nat) (a0 : WK) : Option (Int) :=
 Xx (d0v (XH) n ([(WW.mk a0 1)], 0, 1)) (ZH)
def Yu (a0 : (List Xo)) (s0 : Int × Int) : Option (Ctl (Int) (Int × Int) (Unit)) :=
 bif (decide (0 ≤ s0.2)) then
  chk (0 ≤ s0.2 ∧ s0.2 < (↑a0.length : Int)) <|
  bif (decide (((get a0 s0.2.toNat).kind) = 3)) then
   bif (decide (s0.1 = 0)) then
    some (.ret s0.2)
   else
    some (.nxt ((wr .i64 (s0.1 - 1)), (get a0 s0.2.toNat).up))
  else
   some (.nxt (s0.1, (get a0 s0.2.toNat).up))
 else
  some (.brk ())
def d2y (t0 : Unit) : Option (Int) :=
 some (-1)
def ZM (n : Nat) (a0 : (List Xo)) (a1 : Int) : Option (Int) :=
 chk (0 ≤ a1 ∧ a1 < (↑a0.length : Int)) <|
 Xx (d0v (Yu a0) n ((get a0 a1.toNat).index, (get a0 a1.toNat).up)) (d2y)
def d3I (a0 : WK) (a1 : WK) : Option (WK) :=
 some (WK.mk [] [a0, a1])
def XP : Nat → (WK) → Option (Bs)
 | 0, _ => none
 | n + 1, a0 =>
  bif (!decide (a0.base = [])) then
   some a0.base
  else
   chk (0 < (↑a0.args.length : Int)) <|
   (XP n (get a0.args 0)).bind fun v2 =>
   chk (d6k [40] v2) <|
   chk (d6k (i3V [40] v2) [32]) <|
   chk (1 < (↑a0.args.length : Int)) <|
   (XP n (get a0.args 1)).bind fun v6 =>
   chk (d6k (i3V (i3V [40] v2) [32]) v6) <|
   chk (d6k (i3V (i3V (i3V [40] v2) [32]) v6) [41]) <|
   some (i3V (i3V (i3V (i3V [40] v2) [32]) v6) [41])
def d0j (n : Nat) (a0 : WK) (a1 : WK) : Option (Bool) :=
 (XP n a0).bind fun v1 =>
 (XP n a1).bind fun v2 =>
 some (decide (v1 = v2))
def YV (n : Nat) (v1 : (List Xo)) (s0 : (List WK) × Int) : Option (Ctl (WK × Bool) ((List WK) × Int) ((List WK))) :=
 bif (decide (0 ≤ s0.2)) then
  chk (0 ≤ s0.2 ∧ s0.2 < (↑v1.length : Int)) <|
  bif (decide (((get v1 s0.2.toNat).kind) = 1)) then
   chk (s0.2 < (↑s0.1.length : Int)) <|
   d4y (s0.1.set s0.2.toNat ((get v1 s0.2.toNat).typ)) fun c54 =>
   some (.nxt (c54, (wr .i64 (s0.2 - 1))))
  else
   bif (decide (((get v1 s0.2.toNat).kind) = 2)) then
    (ZM n v1 s0.2).bind fun v57 =>
    chk (0 ≤ v57 ∧ v57 < (↑v1.length : Int)) <|
    chk (s0.2 < (↑s0.1.length : Int)) <|
    d4y (s0.1.set s0.2.toNat ((get v1 v57.toNat).typ)) fun c63 =>
    some (.nxt (c63, (wr .i64 (s0.2 - 1))))
   else
    bif (decide (((get v1 s0.2.toNat).kind) = 3)) then
     chk (0 < (↑(((get v1 s0.2.toNat).kids).length) : Int)) <|
     chk (0 ≤ (get ((get v1 s0.2.toNat).kids) 0) ∧ (get ((get v1 s0.2.toNat).kids) 0) < (↑s0.1.length : Int)) <|
     (d3I ((get v1 s0.2.toNat).typ) (get s0.1 ((get ((get v1 s0.2.toNat).kids) 0).toNat))).bind fun v71 =>
     chk (s0.2 < (↑s0.1.length : Int)) <|
     d4y (s0.1.set s0.2.toNat v71) fun c75 =>
     some (.nxt (c75, (wr .i64 (s0.2 - 1))))
    else
     bif (decide (((get v1 s0.2.toNat).kind) = 4)) then
      chk (0 < (↑(((get v1 s0.2.toNat).kids).length) : Int)) <|
      chk (0 ≤ (get ((get v1 s0.2.toNat).kids) 0) ∧ (get ((get v1 s0.2.toNat).kids) 0) < (↑s0.1.length : Int)) <|
      chk (1 < (↑(((get v1 s0.2.toNat).kids).length) : Int)) <|
      chk (0 ≤ (get ((get v1 s0.2.toNat).kids) 1) ∧ (get ((get v1 s0.2.toNat).kids) 1) < (↑s0.1.length : Int)) <|
      chk (d5N (!(bif (!decide (((get s0.1 ((get ((get v1 s0.2.toNat).kids) 0).toNat)).base) = [])) then true else (!decide ((↑(((get s0.1 ((get ((get v1 s0.2.toNat).kids) 0).toNat)).args).length) : Int) = 2)))) (0 < (↑(((get s0.1 ((get ((get v1 s0.2.toNat).kids) 0).toNat)).args).length) : Int))) <|
      (gd (!(bif (!decide (((get s0.1 ((get ((get v1 s0.2.toNat).kids) 0).toNat)).base) = [])) then true else (!decide ((↑(((get s0.1 ((get ((get v1 s0.2.toNat).kids) 0).toNat)).args).length) : Int) = 2)))) (d0j n (get ((get s0.1 ((get ((get v1 s0.2.toNat).kids) 0).toNat)).args) 0) (get s0.1 ((get ((get v1 s0.2.toNat).kids) 1).toNat))) default).bind fun v90 =>
      bif (bif (bif (!decide (((get s0.1 ((get ((get v1 s0.2.toNat).kids) 0).toNat)).base) = [])) then true else (!decide ((↑(((get s0.1 ((get ((get v1 s0.2.toNat).kids) 0).toNat)).args).length) : Int) = 2))) then true else (!v90)) then
       some (.ret ((WK.mk [] []), false))
      else
       chk (1 < (↑(((get s0.1 ((get ((get v1 s0.2.toNat).kids) 0).toNat)).args).length) : Int)) <|
       chk (s0.2 < (↑s0.1.length : Int)) <|
       d4y (s0.1.set s0.2.toNat (get ((get s0.1 ((get ((get v1 s0.2.toNat).kids) 0).toNat)).args) 1)) fun c95 =>
       some (.nxt (c95, (wr .i64 (s0.2 - 1))))
     else
      some (.nxt (s0.1, (wr .i64 (s0.2 - 1))))
 else
  some (.brk s0.1)
def d0Y (t0 : (List WK)) : Option (WK × Bool) :=
 chk (0 < (↑t0.length : Int)) <|
 some ((get t0 0), true)
def d0S (n : Nat) (a0 : WO) : Option (WK × Bool) :=
 (p0P n a0).bind fun v1 =>
 chk (v1.length * 40 ≤ top ∧ v1.length ≤ top) <|
 Xx (d0v (YV n v1) n ((List.replicate v1.length (default : WK)), (wr .i64 ((↑v1.length : Int) - 1)))) (d0Y)
def d0h (s0 : (List WR) × Int × Nat) (j5 : Int) (s6 : (List WR) × Int × Nat) : Option (Ctl (Ctl (WM) ((List WR) × Int × Nat) (Unit)) ((List WR) × Int × Nat) ((List WR) × Nat)) :=
 bif (decide (0 ≤ s6.2.1)) then
  chk (0 ≤ s6.2.1 ∧ s6.2.1 < (↑(((get s0.1 ((wr .i64 ((↑s0.2.2 : Int) - 1)).toNat)).t.args).length) : Int)) <|
  chk (s6.2.2 ≤ s6.1.length) <|
  d4y ((s6.1.take s6.2.2) ++ [(WR.mk (get ((get s0.1 ((wr .i64 ((↑s0.2.2 : Int) - 1)).toNat)).t.args) s6.2.1.toNat) (wr .i64 (((get s0.1 ((wr .i64 ((↑s0.2.2 : Int) - 1)).toNat)).depth) + 1)) j5)]) fun c57 =>
  chk (c57.length * 112 ≤ top ∧ c57.length ≤ top) <|
  some (.nxt (c57, (wr .i64 (s6.2.1 - 1)), c57.length))
 else
  some (.brk (s6.1, s6.2.2))
def d0i (s0 : (List WR) × Int × Nat) (t6 : (List WR) × Nat) : Option (Ctl (WM) ((List WR) × Int × Nat) (Unit)) :=
 some (.nxt (t6.1, (wr .i64 (s0.2.1 + 1)), t6.2))
def Yt (n : Nat) (s0 : (List WR) × Int × Nat) (j5 : Int) : Option (Ctl (WM) ((List WR) × Int × Nat) (Unit)) :=
 Xx (d0v (d0h s0 j5) n (s0.1, (wr .i64 ((↑(((get s0.1 ((wr .i64 ((↑s0.2.2 : Int) - 1)).toNat)).t.args).length) : Int) - 1)), (wr .i64 ((↑s0.2.2 : Int) - 1)).toNat)) (d0i s0)
def Xy (n : Nat) (s0 : (List WR) × Int × Nat) (j4 : Int) : Option (Ctl (WM) ((List WR) × Int × Nat) (Unit)) :=
 bif (!decide (j4 = 0)) then
  some (.ret (WM.mk j4 s0.2.1))
 else
  bif (decide (((get s0.1 ((wr .i64 ((↑s0.2.2 : Int) - 1)).toNat)).t.kind) = 3)) then
   Yt n s0 (wr .i64 (((get s0.1 ((wr .i64 ((↑s0.2.2 : Int) - 1)).toNat)).bound) + 1))
  else
   Yt n s0 ((get s0.1 ((wr .i64 ((↑s0.2.2 : Int) - 1)).toNat)).bound)
def Xu (n : Nat) (s0 : (List WR) × Int × Nat) : Option (Ctl (WM) ((List WR) × Int × Nat) (Unit)) :=
 bif (decide (0 < (↑s0.2.2 : Int))) then
  chk (s0.2.2 ≤ s0.1.length) <|
  chk (0 ≤ (wr .i64 ((↑s0.2.2 : Int) - 1)) ∧ (wr .i64 ((↑s0.2.2 : Int) - 1)) < (↑s0.2.2 : Int)) <|
  chk ((wr .i64 ((↑s0.2.2 : Int) - 1)).toNat ≤ s0.2.2) <|
  bif (bif (decide (200 ≤ s0.2.1)) then true else (decide (40 < ((get s0.1 ((wr .i64 ((↑s0.2.2 : Int) - 1)).toNat)).depth)))) then
   Xy n s0 1
  else
   bif (bif (decide (((get s0.1 ((wr .i64 ((↑s0.2.2 : Int) - 1)).toNat)).t.kind) < 1)) then true else (decide (4 < ((get s0.1 ((wr .i64 ((↑s0.2.2 : Int) - 1)).toNat)).t.kind)))) then
    Xy n s0 4
   else
    chk (0 ≤ (get s0.1 ((wr .i64 ((↑s0.2.2 : Int) - 1)).toNat)).t.kind ∧ (get s0.1 ((wr .i64 ((↑s0.2.2 : Int) - 1)).toNat)).t.kind < 5) <|
    (gd ((bif (bif (decide ((↑(((get s0.1 ((wr .i64 ((↑s0.2.2 : Int) - 1)).toNat)).t.args).length) : Int) = (get [0, 0, 0, 1, 2] (((get s0.1 ((wr .i64 ((↑s0.2.2 : Int) - 1)).toNat)).t.kind).toNat)))) then (bif (decide (((get s0.1 ((wr .i64 ((↑s0.2.2 : Int) - 1)).toNat)).t.kind) = 1)) then true else (decide (((get s0.1 ((wr .i64 ((↑s0.2.2 : Int) - 1)).toNat)).t.name) = []))) else false) then (bif (decide (((get s0.1 ((wr .i64 ((↑s0.2.2 : Int) - 1)).toNat)).t.kind) = 2)) then true else (decide (((get s0.1 ((wr .i64 ((↑s0.2.2 : Int) - 1)).toNat)).t.index) = 0))) else false) && (!(bif (decide (((get s0.1 ((wr .i64 ((↑s0.2.2 : Int) - 1)).toNat)).t.kind) = 1)) then true else (decide (((get s0.1 ((wr .i64 ((↑s0.2.2 : Int) - 1)).toNat)).t.kind) = 3))))) (d0R ((get s0.1 ((wr .i64 ((↑s0.2.2 : Int) - 1)).toNat)).t.type)) default).bind fun v41 =>
    bif (!(bif (bif (bif (decide ((↑(((get s0.1 ((wr .i64 ((↑s0.2.2 : Int) - 1)).toNat)).t.args).length) : Int) = (get [0, 0, 0, 1, 2] (((get s0.1 ((wr .i64 ((↑s0.2.2 : Int) - 1)).toNat)).t.kind).toNat)))) then (bif (decide (((get s0.1 ((wr .i64 ((↑s0.2.2 : Int) - 1)).toNat)).t.kind) = 1)) then true else (decide (((get s0.1 ((wr .i64 ((↑s0.2.2 : Int) - 1)).toNat)).t.name) = []))) else false) then (bif (decide (((get s0.1 ((wr .i64 ((↑s0.2.2 : Int) - 1)).toNat)).t.kind) = 2)) then true else (decide (((get s0.1 ((wr .i64 ((↑s0.2.2 : Int) - 1)).toNat)).t.index) = 0))) else false) then (bif (bif (decide (((get s0.1 ((wr .i64 ((↑s0.2.2 : Int) - 1)).toNat)).t.kind) = 1)) then true else (decide (((get s0.1 ((wr .i64 ((↑s0.2.2 : Int) - 1)).toNat)).t.kind) = 3))) then true else v41) else false)) then
     Xy n s0 5
    else
     (gd (decide (((get s0.1 ((wr .i64 ((↑s0.2.2 : Int) - 1)).toNat)).t.kind) = 1)) (d1x n ((get s0.1 ((wr .i64 ((↑s0.2.2 : Int) - 1)).toNat)).t.name)) default).bind fun v42 =>
     bif (bif (decide (((get s0.1 ((wr .i64 ((↑s0.2.2 : Int) - 1)).toNat)).t.kind) = 1)) then (!v42) else false) then
      Xy n s0 10
     else
      (gd (bif (decide (((get s0.1 ((wr .i64 ((↑s0.2.2 : Int) - 1)).toNat)).t.kind) = 1)) then true else (decide (((get s0.1 ((wr .i64 ((↑s0.2.2 : Int) - 1)).toNat)).t.kind) = 3))) (Zg n ((get s0.1 ((wr .i64 ((↑s0.2.2 : Int) - 1)).toNat)).t.type)) default).bind fun v43 =>
      bif (bif (bif (decide (((get s0.1 ((wr .i64 ((↑s0.2.2 : Int) - 1)).toNat)).t.kind) = 1)) then true else (decide (((get s0.1 ((wr .i64 ((↑s0.2.2 : Int) - 1)).toNat)).t.kind) = 3))) then (!decide (v43 = 0)) else false) then
       Xy n s0 12
      else
       bif (bif (decide (((get s0.1 ((wr .i64 ((↑s0.2.2 : Int) - 1)).toNat)).t.kind) = 2)) then (bif (decide (((get s0.1 ((wr .i64 ((↑s0.2.2 : Int) - 1)).toNat)).t.index) < 0)) then true else (decide (((get s0.1 ((wr .i64 ((↑s0.2.2 : Int) - 1)).toNat)).bound) ≤ ((get s0.1 ((wr .i64 ((↑s0.2.2 : Int) - 1)).toNat)).t.index)))) else false) then
        Xy n s0 15
       else
        Xy n s0 0
 else
  some (.brk ())
def d0k (n : Nat) (a0 : WO) (t0 : Unit) : Option (WM) :=
 (d0S n a0).bind fun v62 =>
 bif (!v62.2) then
  some (WM.mk 12 (-1))
 else
  some (WM.mk 0 0)
def ZN (n : Nat) (a0 : WO) : Option (WM) :=
 Xx (d0v (Xu n) n ([(WR.mk a0 1 0)], 0, 1)) (d0k n a0)
def Yv (n : Nat) (a0 : WO) : Option (WM) :=
 (ZN n a0).bind fun v1 =>
 some v1
def Yb (a1 : WQ) (k0 : Nat) (s0 : Unit) : Option (Ctl (Int) (Unit) (Unit)) :=
 (Za a1.graph 0 (↑k0 : Int)).bind fun v2 =>
 bif (!decide ((decide (0 ≤ v2)) = (decide ((↑k0 : Int) ≤ a1.kids)))) then
  some (.ret 5)
 else
  some (.nxt ())
def d0l (n : Nat) (a1 : WQ) (t0 : Unit) : Option (Int) :=
 (Yv n a1.meaning).bind fun v3 =>
 some v3.code
def ZO (n : Nat) (a0 : WU) (a1 : WQ) : Option (Int) :=
 bif (bif (bif (bif (decide (a1.kids < 1)) then true else (decide (3 < a1.kids))) then true else (decide (a1.weight < 0))) then true else (decide (1000000 < a1.weight))) then
  some 3
 else
  (Yh n a0 a1.graph).bind fun v1 =>
  bif (!decide (v1.code = 0)) then
   some v1.code
  else
   Xx (XO (Yb a1) 4 ()) (d0l n a1)
def XG (j0 : Int × Int × Int) (a0 : Bs) (s1 : Int × Int) : Option (Ctl (Int) (Int × Int) (Int)) :=
 bif (decide (s1.2 < j0.1)) then
  chk (0 ≤ s1.2 ∧ s1.2 < (↑a0.length : Int)) <|
  bif (bif (decide ((Xd a0 s1.2) < 128)) then true else (decide (191 < (Xd a0 s1.2)))) then
   some (.ret 0)
  else
   some (.nxt ((wr .i64 ((wr .i64 ((wr .i64 (64 * s1.1)) + (wr .i64 (Xd a0 s1.2)))) - 128)), (wr .i64 (s1.2 + 1))))
 else
  some (.brk s1.1)
def ZW (j0 : Int × Int × Int) (t1 : Int) : Option (Int) :=
 bif (bif (bif (decide (t1 < j0.2.1)) then true else (decide (1114111 < t1))) then true else (bif (decide (55296 ≤ t1)) then (decide (t1 ≤ 57343)) else false)) then
  some 0
 else
  some j0.1
def XK (n : Nat) (a0 : Bs) (j0 : Int × Int × Int) : Option (Int) :=
 bif (decide ((↑a0.length : Int) < j0.1)) then
  some 0
 else
  Xx (d0v (XG j0 a0) n (j0.2.2, 1)) (ZW j0)
def Zs (n : Nat) (a0 : Bs) : Option (Int) :=
 chk (0 < (↑a0.length : Int)) <|
 bif (decide ((Xd a0 0) < 128)) then
  some 1
 else
  bif (bif (decide (194 ≤ (Xd a0 0))) then (decide ((Xd a0 0) ≤ 223)) else false) then
   XK n a0 (2, 128, (wr .i64 ((wr .i64 (Xd a0 0)) - 192)))
  else
   bif (bif (decide (224 ≤ (Xd a0 0))) then (decide ((Xd a0 0) ≤ 239)) else false) then
    XK n a0 (3, 2048, (wr .i64 ((wr .i64 (Xd a0 0)) - 224)))
   else
    bif (bif (decide (240 ≤ (Xd a0 0))) then (decide ((Xd a0 0) ≤ 244)) else false) then
     XK n a0 (4, 65536, (wr .i64 ((wr .i64 (Xd a0 0)) - 240)))
    else
     some 0
def d1J (a0 : Bs) (s0 : Nat × Int) : Option (Ctl (Bool) (Nat × Int) (Int)) :=
 bif (decide (s0.1 < a0.length)) then
  chk (s0.1 < a0.length) <|
  bif (bif (bif (bif (bif (bif (bif (bif (bif (decide ((rune a0 s0.1) = 32)) then true else (decide ((rune a0 s0.1) = 9))) then true else (decide ((rune a0 s0.1) = 10))) then true else (decide ((rune a0 s0.1) = 40))) then true else (decide ((rune a0 s0.1) = 41))) then true else (decide ((rune a0 s0.1) = 91))) then true else (decide ((rune a0 s0.1) = 93))) then true else (decide ((rune a0 s0.1) = 44))) then true else (decide ((rune a0 s0.1) = 59))) then
   some (.ret false)
  else
   some (.nxt ((s0.1 + d5t a0 s0.1), (wr .i64 (s0.2 + 1))))
 else
  some (.brk s0.2)
def d1L (n : Nat) (a0 : Bs) (s1 : Int) : Option (Ctl (Bool) (Int) (Unit)) :=
 bif (decide (s1 < (↑a0.length : Int))) then
  chk (0 ≤ s1 ∧ s1.toNat ≤ a0.length) <|
  (Zs n (a0.drop s1.toNat)).bind fun v8 =>
  bif (decide (v8 = 0)) then
   some (.ret false)
  else
   some (.nxt (wr .i64 (s1 + v8)))
 else
  some (.brk ())
def d2Z (t1 : Unit) : Option (Bool) :=
 some true
def d1K (n : Nat) (a0 : Bs) (t0 : Int) : Option (Bool) :=
 bif (bif (decide (t0 < 1)) then true else (decide (30 < t0))) then
  some false
 else
  Xx (d0v (d1L n a0) n 0) (d2Z)
def d1A (n : Nat) (a0 : Bs) : Option (Bool) :=
 Xx (d0v (d1J a0) n (0, 0)) (d1K n a0)
def d0m (n : Nat) (a0 : WU) (a1 : XE) : Option (Int) :=
 (d1A n a1.word).bind fun v1 =>
 bif (!v1) then
  some 10
 else
  bif (bif (decide (a1.weight < 0)) then true else (decide (1000000 < a1.weight))) then
   some 3
  else
   (Yh n a0 a1.graph).bind fun v2 =>
   bif (!decide (v2.code = 0)) then
    some v2.code
   else
    (Yv n a1.meaning).bind fun v3 =>
    some v3.code
def YA (a0 : Xa) (k0 : Nat) (k1 : Nat) (s1 : Unit) : Option (Ctl (Ctl (WM) (Unit) (Unit)) (Unit) (Unit)) :=
 bif (decide (((get (a0.rules.take k0) k1).name) = ((get a0.rules k0).name))) then
  some (.ret (.ret (WM.mk 7 (↑k0 : Int))))
 else
  some (.nxt ())
def Zj (n : Nat) (a0 : Xa) (k0 : Nat) (t1 : Unit) : Option (Ctl (WM) (Unit) (Unit)) :=
 (ZO n a0.hierarchy (get a0.rules k0)).bind fun v5 =>
 bif (!decide (v5 = 0)) then
  some (.ret (WM.mk v5 (↑k0 : Int)))
 else
  some (.nxt ())
def Zi (n : Nat) (a0 : Xa) (k0 : Nat) (s0 : Unit) : Option (Ctl (WM) (Unit) (Unit)) :=
 (ZL ((get a0.rules k0).name)).bind fun v2 =>
 bif (!v2) then
  some (.ret (WM.mk 10 (↑k0 : Int)))
 else
  chk (0 ≤ (↑k0 : Int) ∧ k0 ≤ a0.rules.length) <|
  Xx (XO (YA a0 k0) ((a0.rules.take k0).length) ()) (Zj n a0 k0)
def Zl (n : Nat) (a0 : Xa) (k2 : Nat) (s2 : Unit) : Option (Ctl (WM) (Unit) (Unit)) :=
 (d0m n a0.hierarchy (get a0.Xj k2)).bind fun v6 =>
 bif (!decide (v6 = 0)) then
  some (.ret (WM.mk v6 (↑k2 : Int)))
 else
  some (.nxt ())
def Zm (n : Nat) (a0 : Xa) (t2 : Unit) : Option (WM) :=
 (Yh n a0.hierarchy a0.start).bind fun v7 =>
 bif (!decide (v7.code = 0)) then
  some (WM.mk v7.code (-1))
 else
  some (WM.mk 0 0)
def Zk (n : Nat) (a0 : Xa) (t0 : Unit) : Option (WM) :=
 Xx (XO (Zl n a0) a0.Xj.length ()) (Zm n a0)
def Zb (n : Nat) (a0 : Xa) : Option (WM) :=
 (YE n a0.hierarchy).bind fun v1 =>
 bif (!decide (v1.code = 0)) then
  some v1
 else
  bif (decide ((↑a0.hierarchy.Xw.length : Int) ≤ 3)) then
   some (WM.mk 9 (-1))
  else
   bif (bif (decide (40 < (↑a0.rules.length : Int))) then true else (decide (100 < (↑a0.Xj.length : Int)))) then
    some (WM.mk 2 (-1))
   else
    Xx (XO (Zi n a0) a0.rules.length ()) (Zk n a0)
def d2U (a0 : Int) (a1 : Int) : Option (WM) :=
 some (WM.mk a0 a1)
def d3u (a0 : Int) (a1 : Int) : Option (WM) :=
 some (WM.mk a0 a1)
def d7i (self : (Xn) → (Int) → (Int) → (Int) → ((List WT)) → ((List Xf)) → ((List WQ)) → ((List XE)) → ((List WX)) → (Int) → Option (WM × Int × Int)) (a0 : Xn) (a1 : Int) (j1 : Int) (d6I : (List WT)) (i3i : (List Xf)) (i1A : (List WQ)) (i1T : (List XE)) (i3j : (List WX)) (k2 : Nat) (s2 : Int × Int) : Option (Ctl (WM × Int × Int) (Int × Int) (Int × Int)) :=
 (self (get a0.kids k2) (wr .i64 (a1 + 1)) j1 s2.1 d6I i3i i1A i1T i3j s2.2).bind fun v9 =>
 bif (!decide (v9.1.code = 0)) then
  some (.ret (v9.1, v9.2.1, v9.2.2))
 else
  some (.nxt (v9.2.1, v9.2.2))
def d7j (t2 : Int × Int) : Option (WM × Int × Int) :=
 some ((WM.mk 0 0), t2.1, t2.2)
def d5o (self : (Xn) → (Int) → (Int) → (Int) → ((List WT)) → ((List Xf)) → ((List WQ)) → ((List XE)) → ((List WX)) → (Int) → Option (WM × Int × Int)) (d0F : Int) (j0 : Int × Int) (a0 : Xn) (a1 : Int) (d6I : (List WT)) (i3i : (List Xf)) (i1A : (List WQ)) (i1T : (List XE)) (i3j : (List WX)) (j1 : Int) : Option (WM × Int × Int) :=
 bif (decide (3 < j1)) then
  (d3u 14 d0F).bind fun v7 =>
  some (v7, (wr .i64 (d0F + 1)), j0.1)
 else
  Xx (XO (d7i self a0 a1 j1 d6I i3i i1A i1T i3j) a0.kids.length ((wr .i64 (d0F + 1)), j0.1)) (d7j)
def d5p (self : (Xn) → (Int) → (Int) → (Int) → ((List WT)) → ((List Xf)) → ((List WQ)) → ((List XE)) → ((List WX)) → (Int) → Option (WM × Int × Int)) (a0 : Xn) (d0F : Int) (a1 : Int) (d6I : (List WT)) (i3i : (List Xf)) (i1A : (List WQ)) (i1T : (List XE)) (i3j : (List WX)) (a2 : Int) (j0 : Int × Int) : Option (WM × Int × Int) :=
 bif (!decide ((↑a0.kids.length : Int) = j0.2)) then
  (d3u 9 d0F).bind fun v6 =>
  some (v6, (wr .i64 (d0F + 1)), j0.1)
 else
  bif (!decide (j0.2 = 1)) then
   d5o self d0F j0 a0 a1 d6I i3i i1A i1T i3j 0
  else
   d5o self d0F j0 a0 a1 d6I i3i i1A i1T i3j (wr .i64 (a2 + 1))
def d3v : Nat → (Xn) → (Int) → (Int) → (Int) → ((List WT)) → ((List Xf)) → ((List WQ)) → ((List XE)) → ((List WX)) → (Int) → Option (WM × Int × Int)
 | 0, _, _, _, _, _, _, _, _, _, _ => none
 | n + 1, a0, a1, a2, d0F, d6I, i3i, i1A, i1T, i3j, i1U =>
  bif (bif (decide (200 < (wr .i64 (d0F + 1)))) then true else (decide (48 < a1))) then
   (d3u 1 d0F).bind fun v1 =>
   some (v1, (wr .i64 (d0F + 1)), i1U)
  else
   bif (bif (bif (decide (a0.rule < (-1))) then true else (decide ((↑i1A.length : Int) ≤ a0.rule))) then true else (bif (decide (a0.rule = (-1))) then (bif (decide (a0.lex < 0)) then true else (decide ((↑i1T.length : Int) ≤ a0.lex))) else false)) then
    (d3u 3 d0F).bind fun v2 =>
    some (v2, (wr .i64 (d0F + 1)), i1U)
   else
    bif (bif (decide (0 ≤ a0.rule)) then (!decide (a0.lex = 0)) else false) then
     (d3u 5 d0F).bind fun v3 =>
     some (v3, (wr .i64 (d0F + 1)), i1U)
    else
     bif (decide (0 ≤ a0.rule)) then
      chk (0 ≤ a0.rule ∧ a0.rule < (↑i1A.length : Int)) <|
      d5p (d3v n) a0 d0F a1 d6I i3i i1A i1T i3j a2 (i1U, (get i1A a0.rule.toNat).kids)
     else
      d5p (d3v n) a0 d0F a1 d6I i3i i1A i1T i3j a2 ((wr .i64 (i1U + 1)), 0)
def d9e (n : Nat) (a0 : Xa) (a1 : Xn) : Option (WM) :=
 (d3v n a1 1 0 0 a0.hierarchy.types a0.hierarchy.Xw a0.rules a0.Xj a0.start.nodes 0).bind fun v1 =>
 bif (!decide (v1.1.code = 0)) then
  some v1.1
 else
  bif (decide (12 < v1.2.2)) then
   (d3u 2 (-2)).bind fun v2 =>
   some v2
  else
   some (WM.mk 0 0)
def d7k (self : (Xn) → ((List Int)) → ((List Int)) → Option ((List Int) × (List Int))) (a0 : Xn) (k1 : Nat) (s1 : (List Int) × (List Int)) : Option (Ctl ((List Int) × (List Int)) ((List Int) × (List Int)) ((List Int) × (List Int))) :=
 (self (get a0.kids k1) s1.1 s1.2).bind fun v20 =>
 some (.nxt (v20.1, v20.2))
def d7l (t1 : (List Int) × (List Int)) : Option ((List Int) × (List Int)) :=
 some (t1.1, t1.2)
def d5q (self : (Xn) → ((List Int)) → ((List Int)) → Option ((List Int) × (List Int))) (a0 : Xn) (j0 : (List Int) × (List Int)) : Option ((List Int) × (List Int)) :=
 Xx (XO (d7k self a0) a0.kids.length (j0.1, j0.2)) (d7l)
def d4s : Nat → (Xn) → ((List Int)) → ((List Int)) → Option ((List Int) × (List Int))
 | 0, _, _, _ => none
 | n + 1, a0, l1, l2 =>
  bif (decide (a0.rule < 0)) then
   chk (0 ≤ a0.lex ∧ a0.lex < (↑l2.length : Int)) <|
   d4y (l2.set a0.lex.toNat (wr .i64 ((get l2 a0.lex.toNat) + 1))) fun c7 =>
   d5q (d4s n) a0 (l1, c7)
  else
   chk (0 ≤ a0.rule ∧ a0.rule < (↑l1.length : Int)) <|
   d4y (l1.set a0.rule.toNat (wr .i64 ((get l1 a0.rule.toNat) + 1))) fun c16 =>
   d5q (d4s n) a0 (c16, l2)
def d7Y (n : Nat) (a0 : Xa) (l0 : (List Xn)) (k0 : Nat) (s0 : (List Int) × (List Int)) : Option (Ctl (Xt × WM) ((List Int) × (List Int)) ((List Int) × (List Int))) :=
 (d9e n a0 (get l0 k0)).bind fun v17 =>
 bif (!decide (v17.code = 0)) then
  (d2U v17.code (↑k0 : Int)).bind fun v18 =>
  some (.ret ((Xt.mk [] []), v18))
 else
  (d4s n (get l0 k0) s0.1 s0.2).bind fun v19 =>
  some (.nxt (v19.1, v19.2))
def d7Z (t0 : (List Int) × (List Int)) : Option (Xt × WM) :=
 some ((Xt.mk t0.1 t0.2), (WM.mk 0 0))
def i1l (n : Nat) (a0 : Xa) (l0 : (List Xn)) : Option (Xt × WM) :=
 (d2v n a0).bind fun v1 =>
 bif (!decide (v1.code = 0)) then
  some ((Xt.mk [] []), v1)
 else
  bif (decide (200 < (↑l0.length : Int))) then
   (d2U 2 (-2)).bind fun v2 =>
   some ((Xt.mk [] []), v2)
  else
   chk (a0.rules.length * 8 ≤ top ∧ a0.rules.length ≤ top) <|
   chk (a0.Xj.length * 8 ≤ top ∧ a0.Xj.length ≤ top) <|
   chk (l0.length ≤ 9223372036854775807) <|
   Xx (XO (d7Y n a0 l0) l0.length ((List.replicate a0.rules.length (default : Int)), (List.replicate a0.Xj.length (default : Int)))) (d7Z)
def d4Q (a1 : Xt) (k0 : Nat) (s0 : Unit) : Option (Ctl (WM) (Unit) (Unit)) :=
 bif (bif (decide ((get a1.rules k0) < 0)) then true else (decide (1000000 < (get a1.rules k0)))) then
  (d2U 3 (↑k0 : Int)).bind fun v4 =>
  some (.ret v4)
 else
  some (.nxt ())
def d5Z (a1 : Xt) (k1 : Nat) (s1 : Unit) : Option (Ctl (WM) (Unit) (Unit)) :=
 bif (bif (decide ((get a1.Xj k1) < 0)) then true else (decide (1000000 < (get a1.Xj k1)))) then
  (d2U 3 (wr .i64 ((↑a1.rules.length : Int) + (↑k1 : Int)))).bind fun v6 =>
  some (.ret v6)
 else
  some (.nxt ())
def d8a (t1 : Unit) : Option (WM) :=
 some (WM.mk 0 0)
def d4R (a1 : Xt) (t0 : Unit) : Option (WM) :=
 Xx (XO (d5Z a1) a1.Xj.length ()) (d8a)
def d6g (n : Nat) (a0 : Xa) (a1 : Xt) : Option (WM) :=
 (d2v n a0).bind fun v1 =>
 bif (!decide (v1.code = 0)) then
  some v1
 else
  bif (bif (!decide ((↑a1.rules.length : Int) = (↑a0.rules.length : Int))) then true else (!decide ((↑a1.Xj.length : Int) = (↑a0.Xj.length : Int)))) then
   (d2U 9 (-2)).bind fun v2 =>
   some v2
  else
   Xx (XO (d4Q a1) a1.rules.length ()) (d4R a1)
def d5Y (a0 : Int) : Option (Int) :=
 bif (decide (a0 < 0)) then
  some (wr .u64 ((wr .u64 (wr .i64 (0 - (wr .i64 (a0 + 1))))) + 1))
 else
  some (wr .u64 a0)
def d9d (s0 : Int × Int) : Option (Ctl (Int) (Int × Int) (Int)) :=
 bif (!decide (s0.2 = 0)) then
  chk (s0.2 ≠ 0) <|
  some (.nxt (s0.2, (Int.tmod s0.1 s0.2)))
 else
  some (.brk s0.1)
def i1m (t0 : Int) : Option (Int) :=
 some t0
def d8I (n : Nat) (a0 : Int) (a1 : Int) : Option (Int) :=
 Xx (d0v (d9d) n (a0, a1)) (i1m)
def i6m (a0 : Bool) (a1 : Int) (a2 : Int) : Option (WZ × WM) :=
 bif (bif (decide (1152921504606846976 < a1)) then true else (decide (1152921504606846976 < a2))) then
  some ((WZ.mk 0 0), (WM.mk 18 0))
 else
  bif a0 then
   some ((WZ.mk (wr .i64 (0 - (wr .i64 a1))) (wr .i64 a2)), (WM.mk 0 0))
  else
   some ((WZ.mk (wr .i64 a1) (wr .i64 a2)), (WM.mk 0 0))
def i0x (n : Nat) (a0 : Int) (a1 : Int) : Option (WZ × WM) :=
 bif (decide (a1 = 0)) then
  some ((WZ.mk 0 0), (WM.mk 19 (-2)))
 else
  (d5Y a0).bind fun v1 =>
  (d5Y a1).bind fun v2 =>
  (d8I n v1 v2).bind fun v3 =>
  chk (v3 ≠ 0 ∧ InK .u64 (Int.tdiv v1 v3)) <|
  chk (InK .u64 (Int.tdiv v2 v3)) <|
  (i6m (!decide ((decide (a0 < 0)) = (decide (a1 < 0)))) (Int.tdiv v1 v3) (Int.tdiv v2 v3)).bind fun v7 =>
  some (v7.1, v7.2)
def d4g (n : Nat) (l0 : (List Int)) (l2 : (List Int)) (a1 : (List Int)) (k0 : Nat) (s0 : (List WZ)) : Option (Ctl ((List WZ)) ((List WZ)) ((List WZ))) :=
 chk (0 ≤ (get l0 k0) ∧ (get l0 k0) < (↑l2.length : Int)) <|
 bif (decide (0 < (get l2 ((get l0 k0).toNat)))) then
  chk ((↑k0 : Int) < (↑a1.length : Int)) <|
  (i0x n (get a1 k0) (get l2 ((get l0 k0).toNat))).bind fun v33 =>
  d4y (s0 ++ [v33.1]) fun c35 =>
  chk (c35.length * 16 ≤ top ∧ c35.length ≤ top) <|
  some (.nxt c35)
 else
  d4y (s0 ++ [(WZ.mk 0 1)]) fun c41 =>
  chk (c41.length * 16 ≤ top ∧ c41.length ≤ top) <|
  some (.nxt c41)
def d5I (t0 : (List WZ)) : Option ((List WZ)) :=
 some t0
def d3K (n : Nat) (a1 : (List Int)) (l0 : (List Int)) (l2 : (List Int)) : Option ((List WZ)) :=
 chk (l0.length ≤ 9223372036854775807) <|
 Xx (XO (d4g n l0 l2 a1) l0.length []) (d5I)
def d4M (n : Nat) (a0 : Xa) (a1 : Xt) (k0 : Nat) (s0 : (List Int) × (List Int)) : Option (Ctl ((List WZ) × (List WZ)) ((List Int) × (List Int)) ((List Int) × (List Int))) :=
 (d4k n ((get a0.rules k0).graph) 0 0).bind fun v23 =>
 chk (0 ≤ v23 ∧ v23 < (↑(((get a0.rules k0).graph.nodes).length) : Int)) <|
 d4y (s0.2 ++ [(get ((get a0.rules k0).graph.nodes) v23.toNat).type]) fun c27 =>
 chk (c27.length * 8 ≤ top ∧ c27.length ≤ top) <|
 chk (0 ≤ (get ((get a0.rules k0).graph.nodes) v23.toNat).type ∧ (get ((get a0.rules k0).graph.nodes) v23.toNat).type < (↑s0.1.length : Int)) <|
 chk ((↑k0 : Int) < (↑a1.rules.length : Int)) <|
 d4y (s0.1.set (((get ((get a0.rules k0).graph.nodes) v23.toNat).type).toNat) (wr .i64 ((get s0.1 (((get ((get a0.rules k0).graph.nodes) v23.toNat).type).toNat)) + (get a1.rules k0)))) fun c39 =>
 some (.nxt (c39, c27))
def d4O (a0 : Xa) (a1 : Xt) (k1 : Nat) (s1 : (List Int) × (List Int)) : Option (Ctl ((List WZ) × (List WZ)) ((List Int) × (List Int)) ((List Int) × (List Int))) :=
 chk (0 < (↑(((get a0.Xj k1).graph.nodes).length) : Int)) <|
 d4y (s1.2 ++ [(get ((get a0.Xj k1).graph.nodes) 0).type]) fun c61 =>
 chk (c61.length * 8 ≤ top ∧ c61.length ≤ top) <|
 chk (0 ≤ (get ((get a0.Xj k1).graph.nodes) 0).type ∧ (get ((get a0.Xj k1).graph.nodes) 0).type < (↑s1.1.length : Int)) <|
 chk ((↑k1 : Int) < (↑a1.Xj.length : Int)) <|
 d4y (s1.1.set (((get ((get a0.Xj k1).graph.nodes) 0).type).toNat) (wr .i64 ((get s1.1 (((get ((get a0.Xj k1).graph.nodes) 0).type).toNat)) + (get a1.Xj k1)))) fun c73 =>
 some (.nxt (c73, c61))
def d4P (n : Nat) (a1 : Xt) (t0 : (List Int) × (List Int)) (t1 : (List Int) × (List Int)) : Option ((List WZ) × (List WZ)) :=
 (d3K n a1.rules t0.2 t1.1).bind fun v76 =>
 (d3K n a1.Xj t1.2 t1.1).bind fun v77 =>
 some (v76, v77)
def d4N (n : Nat) (a0 : Xa) (a1 : Xt) (t0 : (List Int) × (List Int)) : Option ((List WZ) × (List WZ)) :=
 Xx (XO (d4O a0 a1) a0.Xj.length (t0.1, [])) (d4P n a1 t0)
def d4w (n : Nat) (a0 : Xa) (a1 : Xt) : Option ((List WZ) × (List WZ)) :=
 chk (a0.hierarchy.types.length * 8 ≤ top ∧ a0.hierarchy.types.length ≤ top) <|
 Xx (XO (d4M n a0 a1) a0.rules.length ((List.replicate a0.hierarchy.types.length (default : Int)), [])) (d4N n a0 a1)
def i0y (n : Nat) (a0 : WZ) (a1 : Int) : Option (WM) :=
 bif (bif (bif (bif (decide (a0.num < (-1152921504606846976))) then true else (decide (1152921504606846976 < a0.num))) then true else (decide (a0.den < 1))) then true else (decide (1152921504606846976 < a0.den))) then
  some (WM.mk 3 a1)
 else
  (d5Y a0.num).bind fun v1 =>
  (d8I n v1 (wr .u64 a0.den)).bind fun v2 =>
  bif (!decide (v2 = 1)) then
   some (WM.mk 5 a1)
  else
   some (WM.mk 0 0)
def i5l (n : Nat) (a0 : WZ) (a1 : WZ) : Option (WM) :=
 (i0y n a0 (-1)).bind fun v1 =>
 bif (!decide (v1.code = 0)) then
  some v1
 else
  (i0y n a1 (-2)).bind fun v2 =>
  some v2
def d8b (a0 : Int) (a1 : Int) : Option (Int × Int) :=
 some ((wr .u64 ((wr .u64 ((wr .u64 ((Int.fdiv a0 (2 ^ (min 32 64))) * (Int.fdiv a1 (2 ^ (min 32 64))))) + (Int.fdiv (wr .u64 ((wr .u64 ((Int.fdiv a0 (2 ^ (min 32 64))) * (d0q .and .u64 a1 4294967295))) + (Int.fdiv (wr .u64 ((d0q .and .u64 a0 4294967295) * (d0q .and .u64 a1 4294967295))) (2 ^ (min 32 64))))) (2 ^ (min 32 64))))) + (Int.fdiv (wr .u64 ((d0q .and .u64 (wr .u64 ((wr .u64 ((Int.fdiv a0 (2 ^ (min 32 64))) * (d0q .and .u64 a1 4294967295))) + (Int.fdiv (wr .u64 ((d0q .and .u64 a0 4294967295) * (d0q .and .u64 a1 4294967295))) (2 ^ (min 32 64))))) 4294967295) + (wr .u64 ((d0q .and .u64 a0 4294967295) * (Int.fdiv a1 (2 ^ (min 32 64))))))) (2 ^ (min 32 64))))), (wr .u64 (a0 * a1)))
def d8c (a0 : Int) (a1 : Int) : Option (Int × Bool) :=
 (d8b a0 a1).bind fun v1 =>
 some (v1.2, (bif (decide (v1.1 = 0)) then (decide (v1.2 ≤ 1152921504606846976)) else false))
def i3k (n : Nat) (a0 : WZ) (a1 : WZ) : Option (WZ × WM) :=
 (d5Y a0.num).bind fun v1 =>
 (d5Y a1.num).bind fun v2 =>
 (d8I n v1 (wr .u64 a1.den)).bind fun v3 =>
 (d8I n v2 (wr .u64 a0.den)).bind fun v4 =>
 chk (v3 ≠ 0 ∧ InK .u64 (Int.tdiv v1 v3)) <|
 chk (v4 ≠ 0 ∧ InK .u64 (Int.tdiv v2 v4)) <|
 (d8c (Int.tdiv v1 v3) (Int.tdiv v2 v4)).bind fun v9 =>
 chk (InK .u64 (Int.tdiv (wr .u64 a0.den) v4)) <|
 chk (InK .u64 (Int.tdiv (wr .u64 a1.den) v3)) <|
 (d8c (Int.tdiv (wr .u64 a0.den) v4) (Int.tdiv (wr .u64 a1.den) v3)).bind fun v12 =>
 bif (bif (!v9.2) then true else (!v12.2)) then
  some ((WZ.mk 0 0), (WM.mk 18 0))
 else
  (i6m (bif (!decide ((decide (a0.num < 0)) = (decide (a1.num < 0)))) then (decide (0 < v9.1)) else false) v9.1 v12.1).bind fun v13 =>
  some (v13.1, v13.2)
def i7D (n : Nat) (a0 : WZ) (a1 : WZ) : Option (WZ × WM) :=
 (i5l n a0 a1).bind fun v1 =>
 bif (!decide (v1.code = 0)) then
  some ((WZ.mk 0 0), v1)
 else
  (i3k n a0 a1).bind fun v2 =>
  some (v2.1, v2.2)
def d3P (self : (Xn) → ((List WZ)) → ((List WZ)) → (Int) → (Int) → Option (Bool × Int × Int)) (a0 : Xn) (d0F : (List WZ)) (d6I : (List WZ)) (k1 : Nat) (s1 : Int × Int) : Option (Ctl (Bool × Int × Int) (Int × Int) (Int × Int)) :=
 (self (get a0.kids k1) d0F d6I s1.1 s1.2).bind fun v7 =>
 bif (!v7.1) then
  some (.ret (false, v7.2.1, v7.2.2))
 else
  some (.nxt (v7.2.1, v7.2.2))
def d3Q (t1 : Int × Int) : Option (Bool × Int × Int) :=
 some (true, t1.1, t1.2)
def d2o (self : (Xn) → ((List WZ)) → ((List WZ)) → (Int) → (Int) → Option (Bool × Int × Int)) (n : Nat) (i1U : Int) (i9q : Int) (a0 : Xn) (d0F : (List WZ)) (d6I : (List WZ)) (j0 : Int × Int) : Option (Bool × Int × Int) :=
 (i7D n (WZ.mk i1U i9q) (WZ.mk j0.1 j0.2)).bind fun v5 =>
 bif (!decide (v5.2.code = 0)) then
  some (false, v5.1.num, v5.1.den)
 else
  Xx (XO (d3P self a0 d0F d6I) a0.kids.length (v5.1.num, v5.1.den)) (d3Q)
def d0E : Nat → (Xn) → ((List WZ)) → ((List WZ)) → (Int) → (Int) → Option (Bool × Int × Int)
 | 0, _, _, _, _, _ => none
 | n + 1, a0, d0F, d6I, i1U, i9q =>
  bif (decide (a0.rule < 0)) then
   chk (0 ≤ a0.lex ∧ a0.lex < (↑d0F.length : Int)) <|
   d2o (d0E n) n i1U i9q a0 d0F d6I ((get d0F a0.lex.toNat).num, (get d0F a0.lex.toNat).den)
  else
   chk (0 ≤ a0.rule ∧ a0.rule < (↑d6I.length : Int)) <|
   d2o (d0E n) n i1U i9q a0 d0F d6I ((get d6I a0.rule.toNat).num, (get d6I a0.rule.toNat).den)
def d4S (n : Nat) (a0 : (List WZ)) (a1 : (List WZ)) (a2 : Xn) : Option (WZ × Bool) :=
 (d0E n a2 a1 a0 1 1).bind fun v1 =>
 bif (!v1.1) then
  some ((WZ.mk 0 0), false)
 else
  some ((WZ.mk v1.2.1 v1.2.2), true)
def d5J (n : Nat) (a0 : Xa) (a1 : Xt) (a2 : Xn) : Option (WZ × WM) :=
 (d6g n a0 a1).bind fun v1 =>
 bif (!decide (v1.code = 0)) then
  some ((WZ.mk 0 0), v1)
 else
  (d9e n a0 a2).bind fun v2 =>
  bif (!decide (v2.code = 0)) then
   some ((WZ.mk 0 0), v2)
  else
   (d4w n a0 a1).bind fun v3 =>
   (d4S n v3.1 v3.2 a2).bind fun v4 =>
   bif (!v4.2) then
    (d2U 18 0).bind fun v5 =>
    some ((WZ.mk 0 0), v5)
   else
    some (v4.1, (WM.mk 0 0))
def Zz (n : Nat) : Option (Bool) :=
 (d3t n).bind fun v1 =>
 (i1l n v1 [(Xn.mk 0 0 [(Xn.mk (-1) 19 []), (Xn.mk 2 0 [(Xn.mk (-1) 9 [])])])]).bind fun v5 =>
 chk (d5N (!(bif (bif (!decide (v5.2.code = 0)) then true else (!decide ((↑v5.1.rules.length : Int) = 6))) then true else (!decide ((↑v5.1.Xj.length : Int) = 21)))) (0 < (↑v5.1.rules.length : Int))) <|
 chk (d5N (!(bif (bif (bif (!decide (v5.2.code = 0)) then true else (!decide ((↑v5.1.rules.length : Int) = 6))) then true else (!decide ((↑v5.1.Xj.length : Int) = 21))) then true else (!decide ((get v5.1.rules 0) = 1)))) (19 < (↑v5.1.Xj.length : Int))) <|
 chk (d5N (!(bif (bif (bif (bif (!decide (v5.2.code = 0)) then true else (!decide ((↑v5.1.rules.length : Int) = 6))) then true else (!decide ((↑v5.1.Xj.length : Int) = 21))) then true else (!decide ((get v5.1.rules 0) = 1))) then true else (!decide ((get v5.1.Xj 19) = 1)))) (0 < (↑v5.1.Xj.length : Int))) <|
 bif (bif (bif (bif (bif (bif (!decide (v5.2.code = 0)) then true else (!decide ((↑v5.1.rules.length : Int) = 6))) then true else (!decide ((↑v5.1.Xj.length : Int) = 21))) then true else (!decide ((get v5.1.rules 0) = 1))) then true else (!decide ((get v5.1.Xj 19) = 1))) then true else (!decide ((get v5.1.Xj 0) = 0))) then
  some false
 else
  (d5J n v1 v5.1 (Xn.mk 0 0 [(Xn.mk (-1) 19 []), (Xn.mk 2 0 [(Xn.mk (-1) 9 [])])])).bind fun v12 =>
  some (bif (decide (v12.2.code = 0)) then (decide (v12.1.num = 1) && (decide (v12.1.den = 1))) else false)
def Yj (s0 : Int) (j2 : Int) : Option (Ctl (WM) (Int) (Unit)) :=
 bif (bif (decide (j2 < 0)) then true else (decide (1000000 < j2))) then
  some (.ret (WM.mk 3 s0))
 else
  some (.nxt (wr .i64 (s0 + 1)))
def YF (a1 : Xt) (s0 : Int) : Option (Ctl (WM) (Int) (Unit)) :=
 bif (decide (s0 < (wr .i64 ((↑a1.rules.length : Int) + (↑a1.Xj.length : Int))))) then
  bif (decide (s0 < (↑a1.rules.length : Int))) then
   chk (0 ≤ s0 ∧ s0 < (↑a1.rules.length : Int)) <|
   Yj s0 (get a1.rules s0.toNat)
  else
   chk (0 ≤ (wr .i64 (s0 - (↑a1.rules.length : Int))) ∧ (wr .i64 (s0 - (↑a1.rules.length : Int))) < (↑a1.Xj.length : Int)) <|
   Yj s0 (get a1.Xj ((wr .i64 (s0 - (↑a1.rules.length : Int))).toNat))
 else
  some (.brk ())
def ZI (t0 : Unit) : Option (WM) :=
 some (WM.mk 0 0)
def YB (n : Nat) (a0 : Xa) (a1 : Xt) : Option (WM) :=
 (Zb n a0).bind fun v1 =>
 bif (!decide (v1.code = 0)) then
  some v1
 else
  bif (bif (!decide ((↑a1.rules.length : Int) = (↑a0.rules.length : Int))) then true else (!decide ((↑a1.Xj.length : Int) = (↑a0.Xj.length : Int)))) then
   some (WM.mk 9 (-2))
  else
   Xx (d0v (YF a1) n 0) (ZI)
def Yc (a0 : Xa) (a1 : Int) (a2 : Int) : Option (Int) :=
 bif (decide (a1 < 0)) then
  chk (0 ≤ a2 ∧ a2 < (↑a0.Xj.length : Int)) <|
  chk (0 < (↑(((get a0.Xj a2.toNat).graph.nodes).length) : Int)) <|
  some ((get ((get a0.Xj a2.toNat).graph.nodes) 0).type)
 else
  chk (0 ≤ a1 ∧ a1 < (↑a0.rules.length : Int)) <|
  (Za ((get a0.rules a1.toNat).graph) 0 0).bind fun v6 =>
  chk (0 ≤ v6 ∧ v6 < (↑(((get a0.rules a1.toNat).graph.nodes).length) : Int)) <|
  some ((get ((get a0.rules a1.toNat).graph.nodes) v6.toNat).type)
def d0C (a0 : Int) : Option (Int) :=
 bif (decide (a0 < 0)) then
  some (wr .u64 (0 - (wr .u64 a0)))
 else
  some (wr .u64 a0)
def Yk (a0 : WL) : Option (WL) :=
 chk (InK .u64 (Int.tdiv a0.hi 2)) <|
 chk (InK .u64 (Int.tdiv a0.lo 2)) <|
 some (WL.mk (Int.tdiv a0.hi 2) (wr .u64 ((Int.tdiv a0.lo 2) + (wr .u64 ((Int.tmod a0.hi 2) * 2 ^ (min 63 64))))))
def Yl (a0 : WL) (a1 : WL) : Option (Bool) :=
 some (bif (decide (a0.hi < a1.hi)) then true else (bif (decide (a0.hi = a1.hi)) then (decide (a0.lo < a1.lo)) else false))
def YP (a0 : WL) (a1 : WL) : Option (WL) :=
 bif (decide (a0.lo < a1.lo)) then
  some (WL.mk (wr .u64 ((wr .u64 (a0.hi - a1.hi)) - 1)) (wr .u64 (a0.lo - a1.lo)))
 else
  some (WL.mk (wr .u64 (a0.hi - a1.hi)) (wr .u64 (a0.lo - a1.lo)))
def d0x (a0 : WL) (a1 : WL) : Option (WL) :=
 bif (decide ((wr .u64 (a0.lo + a1.lo)) < a0.lo)) then
  some (WL.mk (wr .u64 ((wr .u64 (a0.hi + a1.hi)) + 1)) (wr .u64 (a0.lo + a1.lo)))
 else
  some (WL.mk (wr .u64 (a0.hi + a1.hi)) (wr .u64 (a0.lo + a1.lo)))
def Yw (a0 : WL) : Option (WL) :=
 (d0x a0 a0).bind fun v1 =>
 some v1
def Zv (s0 : Int × Int × Int × Int × Int) : Option (Ctl (WL) (Int × Int × Int × Int × Int) (Int × Int × Int × Int × Int)) :=
 bif (bif (decide ((Int.tmod s0.2.1 2) = 0)) then (decide ((Int.tmod s0.2.2.2.1 2) = 0)) else false) then
  (Yk (WL.mk s0.1 s0.2.1)).bind fun v3 =>
  (Yk (WL.mk s0.2.2.1 s0.2.2.2.1)).bind fun v4 =>
  some (.nxt (v3.hi, v3.lo, v4.hi, v4.lo, (wr .i64 (s0.2.2.2.2 + 1))))
 else
  some (.brk (s0.1, s0.2.1, s0.2.2.1, s0.2.2.2.1, s0.2.2.2.2))
def Zw (s1 : Int × Int) : Option (Ctl (WL) (Int × Int) (Int × Int)) :=
 bif (decide ((Int.tmod s1.2 2) = 0)) then
  (Yk (WL.mk s1.1 s1.2)).bind fun v6 =>
  some (.nxt (v6.hi, v6.lo))
 else
  some (.brk (s1.1, s1.2))
def Zx (s4 : Int × Int) : Option (Ctl (Ctl (WL) (Int × Int × Int × Int) (Int × Int)) (Int × Int) (Int × Int)) :=
 bif (decide ((Int.tmod s4.2 2) = 0)) then
  (Yk (WL.mk s4.1 s4.2)).bind fun v13 =>
  some (.nxt (v13.hi, v13.lo))
 else
  some (.brk (s4.1, s4.2))
def d0H (s2 : Int × Int × Int × Int) (t4 : Int × Int) : Option (Ctl (WL) (Int × Int × Int × Int) (Int × Int)) :=
 (Yl (WL.mk t4.1 t4.2) (WL.mk s2.1 s2.2.1)).bind fun v14 =>
 bif v14 then
  (YP (WL.mk s2.1 s2.2.1) (WL.mk t4.1 t4.2)).bind fun v15 =>
  some (.nxt (t4.1, t4.2, v15.hi, v15.lo))
 else
  (YP (WL.mk t4.1 t4.2) (WL.mk s2.1 s2.2.1)).bind fun v16 =>
  some (.nxt (s2.1, s2.2.1, v16.hi, v16.lo))
def Zy (n : Nat) (s2 : Int × Int × Int × Int) : Option (Ctl (WL) (Int × Int × Int × Int) (Int × Int)) :=
 bif (!(decide (s2.2.2.1 = 0) && (decide (s2.2.2.2 = 0)))) then
  Xx (d0v (Zx) n (s2.2.2.1, s2.2.2.2)) (d0H s2)
 else
  some (.brk (s2.1, s2.2.1))
def d0L (t0 : Int × Int × Int × Int × Int) (s5 : Int × Int × Int) : Option (Ctl (WL) (Int × Int × Int) (Int × Int)) :=
 bif (decide (s5.2.2 < t0.2.2.2.2)) then
  (Yw (WL.mk s5.1 s5.2.1)).bind fun v18 =>
  some (.nxt (v18.hi, v18.lo, (wr .i64 (s5.2.2 + 1))))
 else
  some (.brk (s5.1, s5.2.1))
def d2f (t5 : Int × Int) : Option (WL) :=
 some (WL.mk t5.1 t5.2)
def d0K (n : Nat) (t0 : Int × Int × Int × Int × Int) (t2 : Int × Int) : Option (WL) :=
 Xx (d0v (d0L t0) n (t2.1, t2.2, 0)) (d2f)
def d0J (n : Nat) (t0 : Int × Int × Int × Int × Int) (t1 : Int × Int) : Option (WL) :=
 Xx (d0v (Zy n) n (t1.1, t1.2, t0.2.2.1, t0.2.2.2.1)) (d0K n t0)
def d0I (n : Nat) (t0 : Int × Int × Int × Int × Int) : Option (WL) :=
 Xx (d0v (Zw) n (t0.1, t0.2.1)) (d0J n t0)
def d0y (n : Nat) (a0 : WL) (a1 : WL) : Option (WL) :=
 bif (decide (a0.hi = 0) && (decide (a0.lo = 0))) then
  some a1
 else
  bif (decide (a1.hi = 0) && (decide (a1.lo = 0))) then
   some a0
  else
   Xx (d0v (Zv) n (a0.hi, a0.lo, a1.hi, a1.lo, 0)) (d0I n)
def YL (s0 : Int × Int × Int × Int × Int) (v6 : WL) (a1 : WL) (j2 : Int) : Option (Ctl (WL) (Int × Int × Int × Int × Int) (Int × Int)) :=
 (Yw (WL.mk s0.1 s0.2.1)).bind fun v9 =>
 (Yl (WL.mk v6.hi (wr .u64 (v6.lo + j2))) a1).bind fun v10 =>
 bif (!v10) then
  (YP (WL.mk v6.hi (wr .u64 (v6.lo + j2))) a1).bind fun v11 =>
  some (.nxt (v9.hi, (wr .u64 (v9.lo + 1)), v11.hi, v11.lo, (wr .i64 (s0.2.2.2.2 - 1))))
 else
  some (.nxt (v9.hi, v9.lo, v6.hi, (wr .u64 (v6.lo + j2)), (wr .i64 (s0.2.2.2.2 - 1))))
def YK (a1 : WL) (a0 : WL) (s0 : Int × Int × Int × Int × Int) : Option (Ctl (WL) (Int × Int × Int × Int × Int) (Int × Int)) :=
 bif (decide (0 ≤ s0.2.2.2.2)) then
  (Yw (WL.mk s0.2.2.1 s0.2.2.2.1)).bind fun v6 =>
  bif (decide (64 ≤ s0.2.2.2.2)) then
   chk (0 ≤ (wr .i64 (s0.2.2.2.2 - 64))) <|
   YL s0 v6 a1 (Int.tmod (Int.fdiv a0.hi (2 ^ (min ((wr .i64 (s0.2.2.2.2 - 64)).toNat) 64))) 2)
  else
   chk (0 ≤ s0.2.2.2.2) <|
   YL s0 v6 a1 (Int.tmod (Int.fdiv a0.lo (2 ^ (min s0.2.2.2.2.toNat 64))) 2)
 else
  some (.brk (s0.1, s0.2.1))
def d2g (t0 : Int × Int) : Option (WL) :=
 some (WL.mk t0.1 t0.2)
def Zo (n : Nat) (a0 : WL) (a1 : WL) : Option (WL) :=
 Xx (d0v (YK a1 a0) n (0, 0, 0, 0, 127)) (d2g)
def d0T (n : Nat) (a0 : Bool) (a1 : WL) (a2 : WL) : Option (WZ × WM) :=
 (d0y n a1 a2).bind fun v1 =>
 (Zo n a1 v1).bind fun v2 =>
 (Zo n a2 v1).bind fun v3 =>
 (Yl (WL.mk 0 1152921504606846976) v2).bind fun v4 =>
 (gd (!v4) (Yl (WL.mk 0 1152921504606846976) v3) default).bind fun v5 =>
 bif (bif v4 then true else v5) then
  some ((WZ.mk 0 0), (WM.mk 18 0))
 else
  bif a0 then
   some ((WZ.mk (wr .i64 (0 - (wr .i64 v2.lo))) (wr .i64 v3.lo)), (WM.mk 0 0))
  else
   some ((WZ.mk (wr .i64 v2.lo) (wr .i64 v3.lo)), (WM.mk 0 0))
def d0n (n : Nat) (a0 : Int) (a1 : Int) : Option (WZ × WM) :=
 bif (decide (a1 = 0)) then
  some ((WZ.mk 0 0), (WM.mk 19 (-2)))
 else
  (d0C a0).bind fun v1 =>
  (d0C a1).bind fun v2 =>
  (d0T n (!decide ((decide (a0 < 0)) = (decide (a1 < 0)))) (WL.mk 0 v1) (WL.mk 0 v2)).bind fun v3 =>
  some (v3.1, v3.2)
def ZA (a0 : Xa) (v1 : Int) (a1 : Xt) (s0 : Int × Int) : Option (Ctl (WZ) (Int × Int) (Int)) :=
 bif (decide (s0.2 < (↑a0.rules.length : Int))) then
  (Yc a0 s0.2 0).bind fun v4 =>
  bif (decide (v4 = v1)) then
   chk (0 ≤ s0.2 ∧ s0.2 < (↑a1.rules.length : Int)) <|
   some (.nxt ((wr .i64 (s0.1 + (get a1.rules s0.2.toNat))), (wr .i64 (s0.2 + 1))))
  else
   some (.nxt (s0.1, (wr .i64 (s0.2 + 1))))
 else
  some (.brk s0.1)
def d0M (a0 : Xa) (v1 : Int) (a1 : Xt) (s1 : Int × Int) : Option (Ctl (WZ) (Int × Int) (Int)) :=
 bif (decide (s1.2 < (↑a0.Xj.length : Int))) then
  (Yc a0 (-1) s1.2).bind fun v9 =>
  bif (decide (v9 = v1)) then
   chk (0 ≤ s1.2 ∧ s1.2 < (↑a1.Xj.length : Int)) <|
   some (.nxt ((wr .i64 (s1.1 + (get a1.Xj s1.2.toNat))), (wr .i64 (s1.2 + 1))))
  else
   some (.nxt (s1.1, (wr .i64 (s1.2 + 1))))
 else
  some (.brk s1.1)
def YM (n : Nat) (t1 : Int) (j2 : Int) : Option (WZ) :=
 bif (decide (t1 = 0)) then
  some (WZ.mk 0 1)
 else
  (d0n n j2 t1).bind fun v16 =>
  some v16.1
def d0N (n : Nat) (a2 : Int) (a1 : Xt) (a3 : Int) (t1 : Int) : Option (WZ) :=
 bif (decide (0 ≤ a2)) then
  chk (0 ≤ a2 ∧ a2 < (↑a1.rules.length : Int)) <|
  YM n t1 (get a1.rules a2.toNat)
 else
  chk (0 ≤ a3 ∧ a3 < (↑a1.Xj.length : Int)) <|
  YM n t1 (get a1.Xj a3.toNat)
def ZB (n : Nat) (a0 : Xa) (v1 : Int) (a1 : Xt) (a2 : Int) (a3 : Int) (t0 : Int) : Option (WZ) :=
 Xx (d0v (d0M a0 v1 a1) n (t0, 0)) (d0N n a2 a1 a3)
def Yq (n : Nat) (a0 : Xa) (a1 : Xt) (a2 : Int) (a3 : Int) : Option (WZ) :=
 (Yc a0 a2 a3).bind fun v1 =>
 Xx (d0v (ZA a0 v1 a1) n (0, 0)) (ZB n a0 v1 a1 a2 a3)
def d3V (n : Nat) (a0 : Xa) (a1 : Xt) : Option ((List WZ) × (List WZ) × WM) :=
 (d6g n a0 a1).bind fun v1 =>
 bif (!decide (v1.code = 0)) then
  some ([], [], v1)
 else
  (d4w n a0 a1).bind fun v2 =>
  some (v2.1, v2.2, (WM.mk 0 0))
def Yd (n : Nat) (v2 : (List WZ) × (List WZ) × WM) (a0 : Xa) (a1 : Xt) (s0 : Int) : Option (Ctl (Bool) (Int) (Unit)) :=
 bif (decide (s0 < (↑v2.1.length : Int))) then
  chk (0 ≤ s0 ∧ s0 < (↑v2.1.length : Int)) <|
  (Yq n a0 a1 s0 0).bind fun v8 =>
  bif (!(decide ((get v2.1 s0.toNat).num = v8.num) && (decide ((get v2.1 s0.toNat).den = v8.den)))) then
   some (.ret false)
  else
   some (.nxt (wr .i64 (s0 + 1)))
 else
  some (.brk ())
def Yf (n : Nat) (v2 : (List WZ) × (List WZ) × WM) (a0 : Xa) (a1 : Xt) (s1 : Int) : Option (Ctl (Bool) (Int) (Unit)) :=
 bif (decide (s1 < (↑v2.2.1.length : Int))) then
  chk (0 ≤ s1 ∧ s1 < (↑v2.2.1.length : Int)) <|
  (Yq n a0 a1 (-1) s1).bind fun v13 =>
  bif (!(decide ((get v2.2.1 s1.toNat).num = v13.num) && (decide ((get v2.2.1 s1.toNat).den = v13.den)))) then
   some (.ret false)
  else
   some (.nxt (wr .i64 (s1 + 1)))
 else
  some (.brk ())
def YQ (t1 : Unit) : Option (Bool) :=
 some true
def Ye (n : Nat) (v2 : (List WZ) × (List WZ) × WM) (a0 : Xa) (a1 : Xt) (t0 : Unit) : Option (Bool) :=
 Xx (d0v (Yf n v2 a0 a1) n 0) (YQ)
def Yn (n : Nat) (a0 : Xa) (a1 : Xt) : Option (Bool) :=
 (Zz n).bind fun v1 =>
 bif (!v1) then
  some false
 else
  (d3V n a0 a1).bind fun v2 =>
  (YB n a0 a1).bind fun v3 =>
  bif (!decide (v3.code = 0)) then
   some (bif (bif (decide (v2.2.2.code = v3.code) && (decide (v2.2.2.index = v3.index))) then (decide ((↑v2.1.length : Int) = 0)) else false) then (decide ((↑v2.2.1.length : Int) = 0)) else false)
  else
   bif (bif (bif (!decide (v2.2.2.code = 0)) then true else (!decide ((↑v2.1.length : Int) = (↑a0.rules.length : Int)))) then true else (!decide ((↑v2.2.1.length : Int) = (↑a0.Xj.length : Int)))) then
    some false
   else
    Xx (d0v (Yd n v2 a0 a1) n 0) (Ye n v2 a0 a1)
end Go.Proofs.YtgaeiccgdpnkkaaGreatDoor

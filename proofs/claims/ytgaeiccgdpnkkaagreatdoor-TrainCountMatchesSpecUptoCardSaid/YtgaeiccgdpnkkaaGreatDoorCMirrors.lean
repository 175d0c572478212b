import Derived.Test.YtgaeiccgdpnkkaaGreatDoorCHand
import Derived.Test.YtgaeiccgdpnkkaaGreatDoorCRowT
set_option linter.unusedVariables false
set_option linter.unusedSimpArgs false
namespace Go.Proofs.YtgaeiccgdpnkkaaGreatDoor
open Go Go.Am
def d2S (a0 : (List Yj)) (s0 : (List Bool) × Int) (k2 : Nat) (s2 : (List Bool)) : Option (Ctl (Ctl (Bool) ((List Bool) × Int) ((List Bool))) ((List Bool)) ((List Bool))) :=
 chk (0 ≤ (get ((get a0 s0.2.toNat).parents) k2) ∧ (get ((get a0 s0.2.toNat).parents) k2) < (↑s2.length : Int)) <|
 d5A (s2.set ((get ((get a0 s0.2.toNat).parents) k2).toNat) true) fun c44 =>
 some (.nxt c44)
def d2T (s0 : (List Bool) × Int) (t2 : (List Bool)) : Option (Ctl (Bool) ((List Bool) × Int) ((List Bool))) :=
 some (.nxt (t2, (wr .i64 (s0.2 - 1))))
def d2R (a2 : Int) (a0 : (List Yj)) (s0 : (List Bool) × Int) : Option (Ctl (Bool) ((List Bool) × Int) ((List Bool))) :=
 bif (decide (a2 < s0.2)) then
  chk (0 ≤ s0.2 ∧ s0.2 < (↑s0.1.length : Int)) <|
  bif (get s0.1 s0.2.toNat) then
   chk (s0.2 < (↑a0.length : Int)) <|
   YN (Zi (d2S a0 s0) (((get a0 s0.2.toNat).parents).length) s0.1) (d2T s0)
  else
   some (.nxt (s0.1, (wr .i64 (s0.2 - 1))))
 else
  some (.brk s0.1)
def d2U (a2 : Int) (t0 : (List Bool)) : Option (Bool) :=
 chk (0 ≤ a2 ∧ a2 < (↑t0.length : Int)) <|
 some (get t0 a2.toNat)
def Za (n : Nat) (a0 : (List Yj)) (a1 : Int) (a2 : Int) : Option (Bool) :=
 chk (a0.length * 1 ≤ top ∧ a0.length ≤ top) <|
 chk (0 ≤ a1 ∧ a1 < (↑a0.length : Int)) <|
 d5A ((List.replicate a0.length (default : Bool)).set a1.toNat true) fun c8 =>
 YN (d2a (d2R a2 a0) n (c8, a1)) (d2U a2)
def ZY (a0 : Bs) : Option (Ye) :=
 some (Ye.mk a0 [])
def YQ (a0 : Ye) (a1 : Ye) : Option (Ye) :=
 some (Ye.mk [] [a0, a1])
def d1O (a1 : (List Int)) (a0 : (List Bs)) (k0 : Nat) (s0 : (List Yj)) : Option (Ctl (Ym) ((List Yj)) ((List Yj))) :=
 bif (decide (0 < (↑k0 : Int))) then
  chk ((↑k0 : Int) < (↑a1.length : Int)) <|
  d5A (s0 ++ [(Yj.mk (get a0 k0) [(get a1 k0)])]) fun c14 =>
  chk (c14.length * 40 ≤ top ∧ c14.length ≤ top) <|
  some (.nxt c14)
 else
  chk ((s0.length + 1) * 40 ≤ top ∧ s0.length + 1 ≤ top) <|
  some (.nxt (s0 ++ [(Yj.mk (get a0 k0) [])]))
def d1P (a2 : (List Yt)) (t0 : (List Yj)) : Option (Ym) :=
 some (Ym.mk t0 a2)
def d2x (a0 : (List Bs)) (a1 : (List Int)) (a2 : (List Yt)) : Option (Ym) :=
 YN (Zi (d1O a1 a0) a0.length []) (d1P a2)
def Yr (a0 : Int) : Option (Yg) :=
 some (Yg.mk 2 [] a0 (Ye.mk [] []) [])
def YF (a0 : Yg) (a1 : Yg) : Option (Yg) :=
 some (Yg.mk 4 [] 0 (Ye.mk [] []) [a0, a1])
def Yw (a0 : Ye) (a1 : Yg) : Option (Yg) :=
 some (Yg.mk 3 [] 0 a0 [a1])
def d3r (a0 : Bool) : Option ((List Yg)) :=
 (ZY [101]).bind fun v1 =>
 (ZY [116]).bind fun v2 =>
 (YQ v1 v2).bind fun v3 =>
 (YQ v3 v2).bind fun v4 =>
 (YQ v1 v3).bind fun v5 =>
 (YQ v3 v4).bind fun v6 =>
 (Yr 1).bind fun v7 =>
 (Yr 0).bind fun v8 =>
 (YF v7 v8).bind fun v9 =>
 (Yw v3 v9).bind fun v10 =>
 (Yw v4 v10).bind fun v11 =>
 (Yr 1).bind fun v12 =>
 (Yr 0).bind fun v13 =>
 (YF v12 v13).bind fun v14 =>
 (Yw v3 v14).bind fun v15 =>
 (Yw v6 v15).bind fun v16 =>
 (Yr 0).bind fun v17 =>
 (Yw v3 v17).bind fun v18 =>
 (Yr 1).bind fun v19 =>
 (Yr 3).bind fun v20 =>
 (Yr 1).bind fun v21 =>
 (YF v20 v21).bind fun v22 =>
 (Yr 0).bind fun v23 =>
 (YF v22 v23).bind fun v24 =>
 (Yw v1 v24).bind fun v25 =>
 (YF v19 v25).bind fun v26 =>
 (Yw v1 v26).bind fun v27 =>
 (Yw v4 v27).bind fun v28 =>
 (Yw v5 v28).bind fun v29 =>
 (YQ v2 v2).bind fun v30 =>
 (Yr 2).bind fun v31 =>
 (Yr 1).bind fun v32 =>
 (Yr 0).bind fun v33 =>
 (YF v32 v33).bind fun v34 =>
 (YF v31 v34).bind fun v35 =>
 (Yw v1 v35).bind fun v36 =>
 (Yw v3 v36).bind fun v37 =>
 (Yw v30 v37).bind fun v38 =>
 (YQ v2 v2).bind fun v39 =>
 (YQ v2 v39).bind fun v40 =>
 (Yr 2).bind fun v41 =>
 (Yr 3).bind fun v42 =>
 (Yr 0).bind fun v43 =>
 (YF v42 v43).bind fun v44 =>
 (YF v41 v44).bind fun v45 =>
 (Yr 1).bind fun v46 =>
 (Yr 0).bind fun v47 =>
 (YF v46 v47).bind fun v48 =>
 (YF v45 v48).bind fun v49 =>
 (Yw v3 v49).bind fun v50 =>
 (Yw v4 v50).bind fun v51 =>
 (Yw v40 v51).bind fun v52 =>
 (Yw v4 v52).bind fun v53 =>
 bif a0 then
  (Yr 0).bind fun v55 =>
  (Yr 1).bind fun v56 =>
  (YF v55 v56).bind fun v57 =>
  (Yw v4 v57).bind fun v58 =>
  (Yw v3 v58).bind fun v59 =>
  (Yr 0).bind fun v60 =>
  (Yr 1).bind fun v61 =>
  (YF v60 v61).bind fun v62 =>
  (Yw v6 v62).bind fun v63 =>
  (Yw v3 v63).bind fun v64 =>
  (Yr 2).bind fun v65 =>
  (Yr 2).bind fun v66 =>
  (Yr 1).bind fun v67 =>
  (YF v66 v67).bind fun v68 =>
  (Yr 0).bind fun v69 =>
  (YF v68 v69).bind fun v70 =>
  (Yw v1 v70).bind fun v71 =>
  (YF v65 v71).bind fun v72 =>
  (Yw v1 v72).bind fun v73 =>
  (Yw v5 v73).bind fun v74 =>
  (Yw v4 v74).bind fun v75 =>
  some [v59, v64, v18, v75, v38, v53]
 else
  some [v11, v16, v18, v29, v38, v53]
def d2I (a0 : (List (List Int))) (k0 : Nat) (s2 : (List Zh) × Int) : Option (Ctl (Ctl (Yx) ((List Yo)) ((List Yo))) ((List Zh) × Int) ((List Zh))) :=
 bif (decide ((wr .i64 (s2.2 + 1)) < (↑((get a0 k0).length) : Int))) then
  chk (0 ≤ s2.2 ∧ s2.2 < (↑((get a0 k0).length) : Int)) <|
  chk (0 ≤ (wr .i64 (s2.2 + 1)) ∧ (wr .i64 (s2.2 + 1)) < (↑((get a0 k0).length) : Int)) <|
  d5A (s2.1 ++ [(Zh.mk (get (get a0 k0) s2.2.toNat) (get (get a0 k0) ((wr .i64 (s2.2 + 1)).toNat)))]) fun c38 =>
  chk (c38.length * 16 ≤ top ∧ c38.length ≤ top) <|
  some (.nxt (c38, (wr .i64 (s2.2 + 2))))
 else
  some (.brk s2.1)
def d2J (s0 : (List Yo)) (a0 : (List (List Int))) (k0 : Nat) (t2 : (List Zh)) : Option (Ctl (Yx) ((List Yo)) ((List Yo))) :=
 chk ((s0.length + 1) * 32 ≤ top ∧ s0.length + 1 ≤ top) <|
 some (.nxt (s0 ++ [(Yo.mk (get (get a0 k0) 0) t2)]))
def d2K (n : Nat) (a0 : (List (List Int))) (k0 : Nat) (s0 : (List Yo)) : Option (Ctl (Yx) ((List Yo)) ((List Yo))) :=
 chk (0 < (↑((get a0 k0).length) : Int)) <|
 YN (d2a (d2I a0 k0) n ([], 1)) (d2J s0 a0 k0)
def d2L (t0 : (List Yo)) : Option (Yx) :=
 some (Yx.mk t0)
def Zk (n : Nat) (a0 : (List (List Int))) : Option (Yx) :=
 YN (Zi (d2K n a0) a0.length []) (d2L)
def YJ (a0 : Bs) (a1 : Ye) : Option (Yg) :=
 some (Yg.mk 1 a0 0 a1 [])
def d0M (v3 : Ye) (j0 : Int × Bs × Int × Bs × (List Ye) × (List Yg)) : Option (Yg) :=
 (Yw v3 (Yg.mk j0.1 j0.2.1 j0.2.2.1 (Ye.mk j0.2.2.2.1 j0.2.2.2.2.1) j0.2.2.2.2.2)).bind fun v22 =>
 (Yw v3 v22).bind fun v23 =>
 some v23
def d0r (a0 : Bs) (a1 : Bs) (a2 : Bool) : Option (Yg) :=
 (ZY [101]).bind fun v1 =>
 (ZY [116]).bind fun v2 =>
 (YQ v1 v2).bind fun v3 =>
 (YQ v3 v2).bind fun v4 =>
 (YJ a0 v4).bind fun v5 =>
 (YQ v2 v2).bind fun v6 =>
 (YQ v2 v6).bind fun v7 =>
 (YJ a1 v7).bind fun v8 =>
 (Yr 2).bind fun v9 =>
 (Yr 0).bind fun v10 =>
 (YF v9 v10).bind fun v11 =>
 (YF v8 v11).bind fun v12 =>
 (Yr 1).bind fun v13 =>
 (Yr 0).bind fun v14 =>
 (YF v13 v14).bind fun v15 =>
 (YF v12 v15).bind fun v16 =>
 (Yw v1 v16).bind fun v17 =>
 (YF v5 v17).bind fun v18 =>
 bif a2 then
  (YQ v2 v2).bind fun v19 =>
  (YJ [110, 111, 116] v19).bind fun v20 =>
  (YF v20 v18).bind fun v21 =>
  d0M v3 (v21.kind, v21.name, v21.index, v21.type.base, v21.type.args, v21.args)
 else
  d0M v3 (v18.kind, v18.name, v18.index, v18.type.base, v18.type.args, v18.args)
def YC (n : Nat) (a0 : Bs) (a1 : Int) (a2 : Yg) (a3 : (List (List Int))) (d0a : (List Yj)) (p7p : (List Yt)) (p7q : (List Yh)) (l1 : (List YR)) (l2 : (List Yo)) : Option ((List YR)) :=
 (Zk n a3).bind fun v1 =>
 d5A (l1 ++ [(YR.mk a0 v1 a1 a2)]) fun c3 =>
 chk (c3.length * 144 ≤ top ∧ c3.length ≤ top) <|
 some c3
def d4o (n : Nat) : Option (Yq) :=
 (ZY [101]).bind fun v1 =>
 (ZY [116]).bind fun v2 =>
 (YQ v1 v2).bind fun v3 =>
 (YQ v1 v3).bind fun v4 =>
 (d2x [[116, 111, 112], [114, 117, 108, 101], [115, 105, 103, 110], [110, 117, 109], [115, 105, 110, 103], [112, 108, 117, 114], [115], [110, 112], [118, 112], [110], [100, 101, 116], [105, 118], [116, 118], [97, 100, 118], [99, 111, 110, 106]] [0, 0, 0, 0, 3, 3, 2, 2, 2, 2, 2, 2, 2, 2, 2] [(Yt.mk [109, 111, 116, 104, 101, 114] 1 2), (Yt.mk [111, 110, 101] 1 2), (Yt.mk [116, 119, 111] 1 2), (Yt.mk [116, 104, 114, 101, 101] 1 2), (Yt.mk [110, 117, 109] 2 3)]).bind fun v8 =>
 (d3r false).bind fun v9 =>
 chk (0 < (↑v9.length : Int)) <|
 (Zk n [[1, 0, 1, 1, 2, 2, 4], [6], [7, 4, 3], [3], [8, 4, 3]]).bind fun v17 =>
 chk (1 < (↑v9.length : Int)) <|
 (Zk n [[1, 0, 1, 1, 3, 2, 4], [7, 4, 2], [3], [10, 4, 2], [9, 4, 2]]).bind fun v25 =>
 chk (2 < (↑v9.length : Int)) <|
 (Zk n [[1, 0, 1, 1, 3], [8, 4, 2], [3], [11, 4, 2]]).bind fun v32 =>
 chk (3 < (↑v9.length : Int)) <|
 (Zk n [[1, 0, 1, 1, 3, 2, 4], [8, 4, 2], [3], [12, 4, 2], [7]]).bind fun v40 =>
 chk (4 < (↑v9.length : Int)) <|
 (Zk n [[1, 0, 1, 1, 3, 2, 4], [8, 4, 2], [3], [13], [8, 4, 2]]).bind fun v48 =>
 chk (5 < (↑v9.length : Int)) <|
 (Zk n [[1, 0, 1, 1, 3, 2, 4, 3, 5], [7, 4, 2], [5], [7], [14], [7]]).bind fun v57 =>
 (d0r [97, 108, 108] [105, 102] false).bind fun v59 =>
 (YC n [101, 118, 101, 114, 121] 1 v59 [[10, 4, 1], [4]] v8.types v8.YI [(Yh.mk [115] v17 2 0 (get v9 0)), (Yh.mk [110, 112] v25 2 1 (get v9 1)), (Yh.mk [118, 112, 45, 105, 118] v32 1 0 (get v9 2)), (Yh.mk [118, 112, 45, 116, 118] v40 2 2 (get v9 3)), (Yh.mk [118, 112, 45, 110, 111, 116] v48 2 3 (get v9 4)), (Yh.mk [110, 112, 45, 97, 110, 100] v57 3 4 (get v9 5))] [] []).bind fun v63 =>
 (d0r [115, 111, 109, 101] [97, 110, 100] false).bind fun v64 =>
 (YC n [97] 0 v64 [[10, 4, 1], [4]] v8.types v8.YI [(Yh.mk [115] v17 2 0 (get v9 0)), (Yh.mk [110, 112] v25 2 1 (get v9 1)), (Yh.mk [118, 112, 45, 105, 118] v32 1 0 (get v9 2)), (Yh.mk [118, 112, 45, 116, 118] v40 2 2 (get v9 3)), (Yh.mk [118, 112, 45, 110, 111, 116] v48 2 3 (get v9 4)), (Yh.mk [110, 112, 45, 97, 110, 100] v57 3 4 (get v9 5))] v63 []).bind fun v68 =>
 (d0r [115, 111, 109, 101] [97, 110, 100] true).bind fun v69 =>
 (YC n [110, 111] 2 v69 [[10]] v8.types v8.YI [(Yh.mk [115] v17 2 0 (get v9 0)), (Yh.mk [110, 112] v25 2 1 (get v9 1)), (Yh.mk [118, 112, 45, 105, 118] v32 1 0 (get v9 2)), (Yh.mk [118, 112, 45, 116, 118] v40 2 2 (get v9 3)), (Yh.mk [118, 112, 45, 110, 111, 116] v48 2 3 (get v9 4)), (Yh.mk [110, 112, 45, 97, 110, 100] v57 3 4 (get v9 5))] v68 []).bind fun v72 =>
 (YJ [100, 111, 103] v3).bind fun v73 =>
 (YC n [100, 111, 103] 0 v73 [[9, 4, 1], [4]] v8.types v8.YI [(Yh.mk [115] v17 2 0 (get v9 0)), (Yh.mk [110, 112] v25 2 1 (get v9 1)), (Yh.mk [118, 112, 45, 105, 118] v32 1 0 (get v9 2)), (Yh.mk [118, 112, 45, 116, 118] v40 2 2 (get v9 3)), (Yh.mk [118, 112, 45, 110, 111, 116] v48 2 3 (get v9 4)), (Yh.mk [110, 112, 45, 97, 110, 100] v57 3 4 (get v9 5))] v72 []).bind fun v77 =>
 (YJ [100, 111, 103] v3).bind fun v78 =>
 (YC n [100, 111, 103, 115] 0 v78 [[9, 4, 1], [5]] v8.types v8.YI [(Yh.mk [115] v17 2 0 (get v9 0)), (Yh.mk [110, 112] v25 2 1 (get v9 1)), (Yh.mk [118, 112, 45, 105, 118] v32 1 0 (get v9 2)), (Yh.mk [118, 112, 45, 116, 118] v40 2 2 (get v9 3)), (Yh.mk [118, 112, 45, 110, 111, 116] v48 2 3 (get v9 4)), (Yh.mk [110, 112, 45, 97, 110, 100] v57 3 4 (get v9 5))] v77 []).bind fun v82 =>
 (YJ [99, 97, 116] v3).bind fun v83 =>
 (YC n [99, 97, 116] 0 v83 [[9, 4, 1], [4]] v8.types v8.YI [(Yh.mk [115] v17 2 0 (get v9 0)), (Yh.mk [110, 112] v25 2 1 (get v9 1)), (Yh.mk [118, 112, 45, 105, 118] v32 1 0 (get v9 2)), (Yh.mk [118, 112, 45, 116, 118] v40 2 2 (get v9 3)), (Yh.mk [118, 112, 45, 110, 111, 116] v48 2 3 (get v9 4)), (Yh.mk [110, 112, 45, 97, 110, 100] v57 3 4 (get v9 5))] v82 []).bind fun v87 =>
 (YJ [99, 97, 116] v3).bind fun v88 =>
 (YC n [99, 97, 116, 115] 0 v88 [[9, 4, 1], [5]] v8.types v8.YI [(Yh.mk [115] v17 2 0 (get v9 0)), (Yh.mk [110, 112] v25 2 1 (get v9 1)), (Yh.mk [118, 112, 45, 105, 118] v32 1 0 (get v9 2)), (Yh.mk [118, 112, 45, 116, 118] v40 2 2 (get v9 3)), (Yh.mk [118, 112, 45, 110, 111, 116] v48 2 3 (get v9 4)), (Yh.mk [110, 112, 45, 97, 110, 100] v57 3 4 (get v9 5))] v87 []).bind fun v92 =>
 (YJ [102, 105, 115, 104] v3).bind fun v93 =>
 (YC n [102, 105, 115, 104] 1 v93 [[9, 4, 1], [4]] v8.types v8.YI [(Yh.mk [115] v17 2 0 (get v9 0)), (Yh.mk [110, 112] v25 2 1 (get v9 1)), (Yh.mk [118, 112, 45, 105, 118] v32 1 0 (get v9 2)), (Yh.mk [118, 112, 45, 116, 118] v40 2 2 (get v9 3)), (Yh.mk [118, 112, 45, 110, 111, 116] v48 2 3 (get v9 4)), (Yh.mk [110, 112, 45, 97, 110, 100] v57 3 4 (get v9 5))] v92 []).bind fun v97 =>
 (YJ [102, 105, 115, 104] v3).bind fun v98 =>
 (YC n [102, 105, 115, 104] 2 v98 [[9, 4, 1], [5]] v8.types v8.YI [(Yh.mk [115] v17 2 0 (get v9 0)), (Yh.mk [110, 112] v25 2 1 (get v9 1)), (Yh.mk [118, 112, 45, 105, 118] v32 1 0 (get v9 2)), (Yh.mk [118, 112, 45, 116, 118] v40 2 2 (get v9 3)), (Yh.mk [118, 112, 45, 110, 111, 116] v48 2 3 (get v9 4)), (Yh.mk [110, 112, 45, 97, 110, 100] v57 3 4 (get v9 5))] v97 []).bind fun v102 =>
 (YJ [98, 97, 114, 107] v3).bind fun v103 =>
 (YC n [98, 97, 114, 107, 115] 0 v103 [[11, 4, 1], [4]] v8.types v8.YI [(Yh.mk [115] v17 2 0 (get v9 0)), (Yh.mk [110, 112] v25 2 1 (get v9 1)), (Yh.mk [118, 112, 45, 105, 118] v32 1 0 (get v9 2)), (Yh.mk [118, 112, 45, 116, 118] v40 2 2 (get v9 3)), (Yh.mk [118, 112, 45, 110, 111, 116] v48 2 3 (get v9 4)), (Yh.mk [110, 112, 45, 97, 110, 100] v57 3 4 (get v9 5))] v102 []).bind fun v107 =>
 (YJ [98, 97, 114, 107] v3).bind fun v108 =>
 (YC n [98, 97, 114, 107] 0 v108 [[11, 4, 1], [5]] v8.types v8.YI [(Yh.mk [115] v17 2 0 (get v9 0)), (Yh.mk [110, 112] v25 2 1 (get v9 1)), (Yh.mk [118, 112, 45, 105, 118] v32 1 0 (get v9 2)), (Yh.mk [118, 112, 45, 116, 118] v40 2 2 (get v9 3)), (Yh.mk [118, 112, 45, 110, 111, 116] v48 2 3 (get v9 4)), (Yh.mk [110, 112, 45, 97, 110, 100] v57 3 4 (get v9 5))] v107 []).bind fun v112 =>
 (YJ [115, 108, 101, 101, 112] v3).bind fun v113 =>
 (YC n [115, 108, 101, 101, 112, 115] 0 v113 [[11, 4, 1], [4]] v8.types v8.YI [(Yh.mk [115] v17 2 0 (get v9 0)), (Yh.mk [110, 112] v25 2 1 (get v9 1)), (Yh.mk [118, 112, 45, 105, 118] v32 1 0 (get v9 2)), (Yh.mk [118, 112, 45, 116, 118] v40 2 2 (get v9 3)), (Yh.mk [118, 112, 45, 110, 111, 116] v48 2 3 (get v9 4)), (Yh.mk [110, 112, 45, 97, 110, 100] v57 3 4 (get v9 5))] v112 []).bind fun v117 =>
 (YJ [115, 108, 101, 101, 112] v3).bind fun v118 =>
 (YC n [115, 108, 101, 101, 112] 0 v118 [[11, 4, 1], [5]] v8.types v8.YI [(Yh.mk [115] v17 2 0 (get v9 0)), (Yh.mk [110, 112] v25 2 1 (get v9 1)), (Yh.mk [118, 112, 45, 105, 118] v32 1 0 (get v9 2)), (Yh.mk [118, 112, 45, 116, 118] v40 2 2 (get v9 3)), (Yh.mk [118, 112, 45, 110, 111, 116] v48 2 3 (get v9 4)), (Yh.mk [110, 112, 45, 97, 110, 100] v57 3 4 (get v9 5))] v117 []).bind fun v122 =>
 (YJ [99, 104, 97, 115, 101] v4).bind fun v123 =>
 (YC n [99, 104, 97, 115, 101, 115] 0 v123 [[12, 4, 1], [4]] v8.types v8.YI [(Yh.mk [115] v17 2 0 (get v9 0)), (Yh.mk [110, 112] v25 2 1 (get v9 1)), (Yh.mk [118, 112, 45, 105, 118] v32 1 0 (get v9 2)), (Yh.mk [118, 112, 45, 116, 118] v40 2 2 (get v9 3)), (Yh.mk [118, 112, 45, 110, 111, 116] v48 2 3 (get v9 4)), (Yh.mk [110, 112, 45, 97, 110, 100] v57 3 4 (get v9 5))] v122 []).bind fun v127 =>
 (YJ [99, 104, 97, 115, 101] v4).bind fun v128 =>
 (YC n [99, 104, 97, 115, 101] 0 v128 [[12, 4, 1], [5]] v8.types v8.YI [(Yh.mk [115] v17 2 0 (get v9 0)), (Yh.mk [110, 112] v25 2 1 (get v9 1)), (Yh.mk [118, 112, 45, 105, 118] v32 1 0 (get v9 2)), (Yh.mk [118, 112, 45, 116, 118] v40 2 2 (get v9 3)), (Yh.mk [118, 112, 45, 110, 111, 116] v48 2 3 (get v9 4)), (Yh.mk [110, 112, 45, 97, 110, 100] v57 3 4 (get v9 5))] v127 []).bind fun v132 =>
 (YJ [115, 101, 101] v4).bind fun v133 =>
 (YC n [115, 101, 101, 115] 1 v133 [[12, 4, 1], [4]] v8.types v8.YI [(Yh.mk [115] v17 2 0 (get v9 0)), (Yh.mk [110, 112] v25 2 1 (get v9 1)), (Yh.mk [118, 112, 45, 105, 118] v32 1 0 (get v9 2)), (Yh.mk [118, 112, 45, 116, 118] v40 2 2 (get v9 3)), (Yh.mk [118, 112, 45, 110, 111, 116] v48 2 3 (get v9 4)), (Yh.mk [110, 112, 45, 97, 110, 100] v57 3 4 (get v9 5))] v132 []).bind fun v137 =>
 (YJ [115, 101, 101] v4).bind fun v138 =>
 (YC n [115, 101, 101] 1 v138 [[12, 4, 1], [5]] v8.types v8.YI [(Yh.mk [115] v17 2 0 (get v9 0)), (Yh.mk [110, 112] v25 2 1 (get v9 1)), (Yh.mk [118, 112, 45, 105, 118] v32 1 0 (get v9 2)), (Yh.mk [118, 112, 45, 116, 118] v40 2 2 (get v9 3)), (Yh.mk [118, 112, 45, 110, 111, 116] v48 2 3 (get v9 4)), (Yh.mk [110, 112, 45, 97, 110, 100] v57 3 4 (get v9 5))] v137 []).bind fun v142 =>
 (YQ v2 v2).bind fun v143 =>
 (YJ [110, 111, 116] v143).bind fun v144 =>
 (YC n [110, 111, 116] 0 v144 [[13]] v8.types v8.YI [(Yh.mk [115] v17 2 0 (get v9 0)), (Yh.mk [110, 112] v25 2 1 (get v9 1)), (Yh.mk [118, 112, 45, 105, 118] v32 1 0 (get v9 2)), (Yh.mk [118, 112, 45, 116, 118] v40 2 2 (get v9 3)), (Yh.mk [118, 112, 45, 110, 111, 116] v48 2 3 (get v9 4)), (Yh.mk [110, 112, 45, 97, 110, 100] v57 3 4 (get v9 5))] v142 []).bind fun v147 =>
 (YQ v2 v2).bind fun v148 =>
 (YQ v2 v148).bind fun v149 =>
 (YJ [97, 110, 100] v149).bind fun v150 =>
 (YC n [97, 110, 100] 0 v150 [[14]] v8.types v8.YI [(Yh.mk [115] v17 2 0 (get v9 0)), (Yh.mk [110, 112] v25 2 1 (get v9 1)), (Yh.mk [118, 112, 45, 105, 118] v32 1 0 (get v9 2)), (Yh.mk [118, 112, 45, 116, 118] v40 2 2 (get v9 3)), (Yh.mk [118, 112, 45, 110, 111, 116] v48 2 3 (get v9 4)), (Yh.mk [110, 112, 45, 97, 110, 100] v57 3 4 (get v9 5))] v147 []).bind fun v153 =>
 (Yr 0).bind fun v154 =>
 (YJ [114, 101, 120] v1).bind fun v155 =>
 (YF v154 v155).bind fun v156 =>
 (Yw v3 v156).bind fun v157 =>
 (YC n [114, 101, 120] 0 v157 [[7, 4, 1], [4]] v8.types v8.YI [(Yh.mk [115] v17 2 0 (get v9 0)), (Yh.mk [110, 112] v25 2 1 (get v9 1)), (Yh.mk [118, 112, 45, 105, 118] v32 1 0 (get v9 2)), (Yh.mk [118, 112, 45, 116, 118] v40 2 2 (get v9 3)), (Yh.mk [118, 112, 45, 110, 111, 116] v48 2 3 (get v9 4)), (Yh.mk [110, 112, 45, 97, 110, 100] v57 3 4 (get v9 5))] v153 []).bind fun v161 =>
 (Yr 0).bind fun v162 =>
 (YJ [109, 105, 97] v1).bind fun v163 =>
 (YF v162 v163).bind fun v164 =>
 (Yw v3 v164).bind fun v165 =>
 (YC n [109, 105, 97] 0 v165 [[7, 4, 1], [4]] v8.types v8.YI [(Yh.mk [115] v17 2 0 (get v9 0)), (Yh.mk [110, 112] v25 2 1 (get v9 1)), (Yh.mk [118, 112, 45, 105, 118] v32 1 0 (get v9 2)), (Yh.mk [118, 112, 45, 116, 118] v40 2 2 (get v9 3)), (Yh.mk [118, 112, 45, 110, 111, 116] v48 2 3 (get v9 4)), (Yh.mk [110, 112, 45, 97, 110, 100] v57 3 4 (get v9 5))] v161 []).bind fun v169 =>
 (Zk n [[6]]).bind fun v172 =>
 some (Yq.mk v8 [(Yh.mk [115] v17 2 0 (get v9 0)), (Yh.mk [110, 112] v25 2 1 (get v9 1)), (Yh.mk [118, 112, 45, 105, 118] v32 1 0 (get v9 2)), (Yh.mk [118, 112, 45, 116, 118] v40 2 2 (get v9 3)), (Yh.mk [118, 112, 45, 110, 111, 116] v48 2 3 (get v9 4)), (Yh.mk [110, 112, 45, 97, 110, 100] v57 3 4 (get v9 5))] v169 v172)
def ZL (a0 : Int) (a1 : Int) : Option (Yf) :=
 some (Yf.mk a0 a1)
def d8t (a0 : Bs) (k0 : Nat) (s0 : Unit) : Option (Ctl (Bool) (Unit) (Unit)) :=
 bif (!(bif (bif (bif (bif (decide (97 ≤ (Yu a0 (↑k0 : Int)))) then (decide ((Yu a0 (↑k0 : Int)) ≤ 122)) else false) then true else (bif (decide (48 ≤ (Yu a0 (↑k0 : Int)))) then (decide ((Yu a0 (↑k0 : Int)) ≤ 57)) else false)) then true else (decide ((Yu a0 (↑k0 : Int)) = 95))) then true else (decide ((Yu a0 (↑k0 : Int)) = 45)))) then
  some (.ret false)
 else
  some (.nxt ())
def d8u (t0 : Unit) : Option (Bool) :=
 some true
def termName (a0 : Bs) : Option (Bool) :=
 chk (d5M (!(bif (decide ((↑a0.length : Int) = 0)) then true else (decide (30 < (↑a0.length : Int))))) (0 < (↑a0.length : Int))) <|
 chk (d5M (!(bif (bif (decide ((↑a0.length : Int) = 0)) then true else (decide (30 < (↑a0.length : Int)))) then true else (decide ((Yu a0 0) < 97)))) (0 < (↑a0.length : Int))) <|
 bif (bif (bif (bif (decide ((↑a0.length : Int) = 0)) then true else (decide (30 < (↑a0.length : Int)))) then true else (decide ((Yu a0 0) < 97))) then true else (decide (122 < (Yu a0 0)))) then
  some false
 else
  chk (a0.length ≤ 9223372036854775807) <|
  YN (Zi (d8t a0) a0.length ()) (d8u)
def d4u (a0 : (List Yj)) (k0 : Nat) (k2 : Nat) (s2 : Int) : Option (Ctl (Ctl (Yf) ((List (Bs × Int))) ((List (Bs × Int)))) (Int) (Int)) :=
 bif (bif (decide ((get ((get a0 k0).parents) k2) < 0)) then true else (decide ((↑k0 : Int) ≤ (get ((get a0 k0).parents) k2)))) then
  (ZL 3 (↑k0 : Int)).bind fun v20 =>
  some (.ret (.ret v20))
 else
  bif (decide ((get ((get a0 k0).parents) k2) ≤ s2)) then
   (ZL 13 (↑k0 : Int)).bind fun v21 =>
   some (.ret (.ret v21))
  else
   some (.nxt (get ((get a0 k0).parents) k2))
def d4v (c15 : (List (Bs × Int))) (t2 : Int) : Option (Ctl (Yf) ((List (Bs × Int))) ((List (Bs × Int)))) :=
 some (.nxt c15)
def d4t (a0 : (List Yj)) (k0 : Nat) (s0 : (List (Bs × Int))) : Option (Ctl (Yf) ((List (Bs × Int))) ((List (Bs × Int)))) :=
 (termName ((get a0 k0).name)).bind fun v12 =>
 bif (!v12) then
  (ZL 10 (↑k0 : Int)).bind fun v13 =>
  some (.ret v13)
 else
  bif (assoc ((get a0 k0).name) s0).isSome then
   (ZL 7 (↑k0 : Int)).bind fun v14 =>
   some (.ret v14)
  else
   d5A (ZT ((get a0 k0).name) (↑k0 : Int) s0) fun c15 =>
   bif (!decide ((decide ((↑k0 : Int) = 0)) = (decide ((↑(((get a0 k0).parents).length) : Int) = 0)))) then
    (ZL 5 (↑k0 : Int)).bind fun v17 =>
    some (.ret v17)
   else
    YN (Zi (d4u a0 k0) (((get a0 k0).parents).length) (-1)) (d4v c15)
def d5K (t0 : (List (Bs × Int))) : Option (Yf) :=
 some (Yf.mk 0 0)
def d3L (a0 : (List Yj)) : Option (Yf) :=
 bif (bif (decide ((↑a0.length : Int) = 0)) then true else (decide (60 < (↑a0.length : Int)))) then
  (ZL 2 (-1)).bind fun v1 =>
  some v1
 else
  YN (Zi (d4t a0) a0.length []) (d5K)
def d3X (k0 : Nat) (a0 : (List Yj)) (k3 : Nat) (s3 : (List Int)) : Option (Ctl (Ctl (Yy) ((List Int) × (List Int)) ((List Int) × (List Int))) ((List Int)) ((List Int))) :=
 chk ((↑k0 : Int) < (↑s3.length : Int)) <|
 chk (0 ≤ (get ((get a0 k0).parents) k3) ∧ (get ((get a0 k0).parents) k3) < (↑s3.length : Int)) <|
 d5A (s3.set k0 (d1t .or .u64 (get s3 k0) (get s3 ((get ((get a0 k0).parents) k3).toNat)))) fun c86 =>
 some (.nxt c86)
def d3Z (k0 : Nat) (t3 : (List Int)) (k4 : Nat) (s4 : (List Int)) : Option (Ctl (Ctl (Yy) ((List Int) × (List Int)) ((List Int) × (List Int))) ((List Int)) ((List Int))) :=
 chk ((↑k0 : Int) < (↑t3.length : Int)) <|
 chk (0 ≤ (↑k4 : Int)) <|
 bif (decide ((d1t .and .u64 (Int.fdiv (get t3 k0) (2 ^ (min k4 64))) 1) = 1)) then
  chk ((↑k4 : Int) < (↑s4.length : Int)) <|
  d5A (s4.set k4 (d1t .or .u64 (get s4 k4) (wr .u64 (1 * 2 ^ (min k0 64))))) fun c110 =>
  some (.nxt c110)
 else
  some (.nxt s4)
def d4a (t3 : (List Int)) (t4 : (List Int)) : Option (Ctl (Yy) ((List Int) × (List Int)) ((List Int) × (List Int))) :=
 some (.nxt (t3, t4))
def d3Y (k0 : Nat) (a0 : (List Yj)) (s0 : (List Int) × (List Int)) (t3 : (List Int)) : Option (Ctl (Yy) ((List Int) × (List Int)) ((List Int) × (List Int))) :=
 YN (Zi (d3Z k0 t3) a0.length s0.2) (d4a t3)
def d3W (a0 : (List Yj)) (k0 : Nat) (s0 : (List Int) × (List Int)) : Option (Ctl (Yy) ((List Int) × (List Int)) ((List Int) × (List Int))) :=
 chk (0 ≤ (↑k0 : Int)) <|
 chk ((↑k0 : Int) < (↑s0.1.length : Int)) <|
 d5A (s0.1.set k0 (wr .u64 (1 * 2 ^ (min k0 64)))) fun c62 =>
 YN (Zi (d3X k0 a0) (((get a0 k0).parents).length) c62) (d3Y k0 a0 s0)
def d4b (t0 : (List Int) × (List Int)) : Option (Yy) :=
 some (Yy.mk t0.1 t0.2)
def d3n (a0 : (List Yj)) : Option (Yy) :=
 chk (a0.length * 8 ≤ top ∧ a0.length ≤ top) <|
 YN (Zi (d3W a0) a0.length ((List.replicate a0.length (default : Int)), (List.replicate a0.length (default : Int)))) (d4b)
def d1e (a0 : Int) : Option (Int) :=
 bif (decide (a0 = 0)) then
  some 64
 else
  chk (0 ≤ (Int.fdiv (wr .u64 ((d1t .and .u64 a0 (wr .u64 (0 - a0))) * 285870213051353865)) (2 ^ (min 58 64))) ∧ (Int.fdiv (wr .u64 ((d1t .and .u64 a0 (wr .u64 (0 - a0))) * 285870213051353865)) (2 ^ (min 58 64))) < 64) <|
  some (wr .i64 (get p1N ((Int.fdiv (wr .u64 ((d1t .and .u64 a0 (wr .u64 (0 - a0))) * 285870213051353865)) (2 ^ (min 58 64))).toNat)))
def d2Q (a0 : Yy) (a1 : Int) (a2 : Int) : Option (Int × Bool × Bool) :=
 chk (0 ≤ a1 ∧ a1 < (↑a0.down.length : Int)) <|
 chk (0 ≤ a2 ∧ a2 < (↑a0.down.length : Int)) <|
 bif (decide ((d1t .and .u64 (get a0.down a1.toNat) (get a0.down a2.toNat)) = 0)) then
  some (0, false, false)
 else
  (d1e (d1t .and .u64 (get a0.down a1.toNat) (get a0.down a2.toNat))).bind fun v5 =>
  chk (0 ≤ v5 ∧ v5 < (↑a0.down.length : Int)) <|
  bif (!decide ((get a0.down v5.toNat) = (d1t .and .u64 (get a0.down a1.toNat) (get a0.down a2.toNat)))) then
   some (0, false, true)
  else
   some (v5, true, false)
def d3g (v3 : Yy) (k0 : Nat) (k1 : Nat) (s1 : Unit) : Option (Ctl (Ctl (Yf) (Unit) (Unit)) (Unit) (Unit)) :=
 (d2Q v3 (↑k1 : Int) (↑k0 : Int)).bind fun v6 =>
 bif v6.2.2 then
  (ZL 16 (↑k0 : Int)).bind fun v7 =>
  some (.ret (.ret v7))
 else
  some (.nxt ())
def d3h (t1 : Unit) : Option (Ctl (Yf) (Unit) (Unit)) :=
 some (.nxt ())
def d3f (v3 : Yy) (k0 : Nat) (s0 : Unit) : Option (Ctl (Yf) (Unit) (Unit)) :=
 chk (k0 ≤ 9223372036854775807) <|
 YN (Zi (d3g v3 k0) k0 ()) (d3h)
def d3e (a0 : Ym) (k2 : Nat) (s2 : (List (Bs × Int))) : Option (Ctl (Yf) ((List (Bs × Int))) ((List (Bs × Int)))) :=
 (termName ((get a0.YI k2).name)).bind fun v14 =>
 bif (!v14) then
  (ZL 10 (↑k2 : Int)).bind fun v15 =>
  some (.ret v15)
 else
  bif (assoc ((get a0.YI k2).name) s2).isSome then
   (ZL 7 (↑k2 : Int)).bind fun v16 =>
   some (.ret v16)
  else
   d5A (ZT ((get a0.YI k2).name) (↑k2 : Int) s2) fun c17 =>
   bif (bif (bif (bif (decide (((get a0.YI k2).of_) < 0)) then true else (decide ((↑a0.types.length : Int) ≤ ((get a0.YI k2).of_)))) then true else (decide (((get a0.YI k2).value) < 0))) then true else (decide ((↑a0.types.length : Int) ≤ ((get a0.YI k2).value)))) then
    (ZL 3 (↑k2 : Int)).bind fun v19 =>
    some (.ret v19)
   else
    some (.nxt c17)
def d4F (t2 : (List (Bs × Int))) : Option (Yf) :=
 some (Yf.mk 0 0)
def d1Z (a0 : Ym) (t0 : Unit) : Option (Yf) :=
 YN (Zi (d3e a0) a0.YI.length []) (d4F)
def d3o (a0 : Ym) : Option (Yf) :=
 bif (bif (bif (decide ((↑a0.types.length : Int) = 0)) then true else (decide (60 < (↑a0.types.length : Int)))) then true else (decide (40 < (↑a0.YI.length : Int)))) then
  (ZL 2 (-1)).bind fun v1 =>
  some v1
 else
  (d3L a0.types).bind fun v2 =>
  bif (!decide (v2.code = 0)) then
   some v2
  else
   (d3n a0.types).bind fun v3 =>
   chk (a0.types.length ≤ 9223372036854775807) <|
   YN (Zi (d3f v3) a0.types.length ()) (d1Z a0)
def d2j (a0 : Int) (a1 : Int) : Option (Yf) :=
 some (Yf.mk a0 a1)
def d4s (a0 : Int) (a1 : Int) : Option (Yf) :=
 some (Yf.mk a0 a1)
def d6z (a1 : Yx) (k0 : Nat) (a0 : Ym) (k2 : Nat) (s2 : Int) : Option (Ctl (Ctl (Yf) (Unit) (Unit)) (Int) (Int)) :=
 bif (bif (bif (bif (decide (((get ((get a1.nodes k0).links) k2).d5y) < 0)) then true else (decide ((↑a0.YI.length : Int) ≤ ((get ((get a1.nodes k0).links) k2).d5y)))) then true else (decide (((get ((get a1.nodes k0).links) k2).to_) < 0))) then true else (decide ((↑a1.nodes.length : Int) ≤ ((get ((get a1.nodes k0).links) k2).to_)))) then
  (d4s 3 (↑k0 : Int)).bind fun v10 =>
  some (.ret (.ret v10))
 else
  bif (decide (((get ((get a1.nodes k0).links) k2).d5y) ≤ s2)) then
   (d4s 13 (↑k0 : Int)).bind fun v11 =>
   some (.ret (.ret v11))
  else
   some (.nxt ((get ((get a1.nodes k0).links) k2).d5y))
def d6A (t2 : Int) : Option (Ctl (Yf) (Unit) (Unit)) :=
 some (.nxt ())
def d6y (a1 : Yx) (a0 : Ym) (k0 : Nat) (s0 : Unit) : Option (Ctl (Yf) (Unit) (Unit)) :=
 bif (bif (decide (((get a1.nodes k0).type) < 0)) then true else (decide ((↑a0.types.length : Int) ≤ ((get a1.nodes k0).type)))) then
  (d4s 3 (↑k0 : Int)).bind fun v7 =>
  some (.ret v7)
 else
  YN (Zi (d6z a1 k0 a0) (((get a1.nodes k0).links).length) (-1)) (d6A)
def d8x (t0 : Unit) : Option (Yf) :=
 some (Yf.mk 0 0)
def d8b (a0 : Ym) (a1 : Yx) : Option (Yf) :=
 bif (bif (decide ((↑a1.nodes.length : Int) = 0)) then true else (decide (60 < (↑a1.nodes.length : Int)))) then
  (d4s 2 (-2)).bind fun v1 =>
  some v1
 else
  YN (Zi (d6y a1 a0) a1.nodes.length ()) (d8x)
def d2m (a0 : Yy) (a1 : Int) (a2 : Int) : Option (Bool) :=
 chk (0 ≤ a1 ∧ a1 < (↑a0.up.length : Int)) <|
 chk (0 ≤ a2) <|
 some (decide ((d1t .and .u64 (Int.fdiv (get a0.up a1.toNat) (2 ^ (min a2.toNat 64))) 1) = 1))
def d2B (a1 : Bool) (a0 : (List Bool)) (k0 : Nat) (s0 : Unit) : Option (Ctl (Int) (Unit) (Unit)) :=
 bif (decide (a1 = (get a0 k0))) then
  some (.ret (↑k0 : Int))
 else
  some (.nxt ())
def d3S (t0 : Unit) : Option (Int) :=
 some (-1)
def ZP (a0 : (List Bool)) (a1 : Bool) : Option (Int) :=
 YN (Zi (d2B a1 a0) a0.length ()) (d3S)
def d4x (a0 : Yx) (s0 : (List Bool) × (List Int) × Nat) (k2 : Nat) (s2 : (List Bool) × (List Int) × Nat) : Option (Ctl (Ctl (Int) ((List Bool) × (List Int) × Nat) ((List Bool))) ((List Bool) × (List Int) × Nat) ((List Bool) × (List Int) × Nat)) :=
 chk (0 ≤ (get ((get a0.nodes ((get s0.2.1 ((wr .i64 ((↑s0.2.2 : Int) - 1)).toNat)).toNat)).links) k2).to_ ∧ (get ((get a0.nodes ((get s0.2.1 ((wr .i64 ((↑s0.2.2 : Int) - 1)).toNat)).toNat)).links) k2).to_ < (↑s2.1.length : Int)) <|
 bif (!(get s2.1 (((get ((get a0.nodes ((get s0.2.1 ((wr .i64 ((↑s0.2.2 : Int) - 1)).toNat)).toNat)).links) k2).to_).toNat))) then
  d5A (s2.1.set (((get ((get a0.nodes ((get s0.2.1 ((wr .i64 ((↑s0.2.2 : Int) - 1)).toNat)).toNat)).links) k2).to_).toNat) true) fun c79 =>
  chk (s2.2.2 ≤ s2.2.1.length) <|
  d5A ((s2.2.1.take s2.2.2) ++ [(get ((get a0.nodes ((get s0.2.1 ((wr .i64 ((↑s0.2.2 : Int) - 1)).toNat)).toNat)).links) k2).to_]) fun c84 =>
  chk (c84.length * 8 ≤ top ∧ c84.length ≤ top) <|
  some (.nxt (c79, c84, c84.length))
 else
  some (.nxt (s2.1, s2.2.1, s2.2.2))
def d4y (t2 : (List Bool) × (List Int) × Nat) : Option (Ctl (Int) ((List Bool) × (List Int) × Nat) ((List Bool))) :=
 some (.nxt (t2.1, t2.2.1, t2.2.2))
def d4w (a0 : Yx) (s0 : (List Bool) × (List Int) × Nat) : Option (Ctl (Int) ((List Bool) × (List Int) × Nat) ((List Bool))) :=
 bif (decide (0 < (↑s0.2.2 : Int))) then
  chk (s0.2.2 ≤ s0.2.1.length) <|
  chk (0 ≤ (wr .i64 ((↑s0.2.2 : Int) - 1)) ∧ (wr .i64 ((↑s0.2.2 : Int) - 1)) < (↑s0.2.2 : Int)) <|
  chk ((wr .i64 ((↑s0.2.2 : Int) - 1)).toNat ≤ s0.2.2) <|
  chk (0 ≤ (get s0.2.1 ((wr .i64 ((↑s0.2.2 : Int) - 1)).toNat)) ∧ (get s0.2.1 ((wr .i64 ((↑s0.2.2 : Int) - 1)).toNat)) < (↑a0.nodes.length : Int)) <|
  YN (Zi (d4x a0 s0) (((get a0.nodes ((get s0.2.1 ((wr .i64 ((↑s0.2.2 : Int) - 1)).toNat)).toNat)).links).length) (s0.1, s0.2.1, (wr .i64 ((↑s0.2.2 : Int) - 1)).toNat)) (d4y)
 else
  some (.brk s0.1)
def d4z (t0 : (List Bool)) : Option (Int) :=
 (ZP t0 false).bind fun v89 =>
 some v89
def d3M (n : Nat) (a0 : Yx) : Option (Int) :=
 chk (a0.nodes.length * 1 ≤ top ∧ a0.nodes.length ≤ top) <|
 chk (0 < (↑a0.nodes.length : Int)) <|
 d5A ((List.replicate a0.nodes.length (default : Bool)).set 0 true) fun c7 =>
 YN (d2a (d4w a0) n (c7, [0], 1)) (d4z)
def d5Q (a2 : Yx) (k0 : Nat) (a0 : Ym) (a1 : Yy) (k2 : Nat) (s2 : Unit) : Option (Ctl (Ctl (Yf) (Unit) (Unit)) (Unit) (Unit)) :=
 chk (0 ≤ (get ((get a2.nodes k0).links) k2).d5y ∧ (get ((get a2.nodes k0).links) k2).d5y < (↑a0.YI.length : Int)) <|
 (d2m a1 ((get a2.nodes k0).type) ((get a0.YI (((get ((get a2.nodes k0).links) k2).d5y).toNat)).of_)).bind fun v28 =>
 chk (d5M (!(!v28)) (0 ≤ (get ((get a2.nodes k0).links) k2).to_) ∧ d5M (!(!v28)) ((get ((get a2.nodes k0).links) k2).to_ < (↑a2.nodes.length : Int))) <|
 (gd (!(!v28)) (d2m a1 ((get a2.nodes (((get ((get a2.nodes k0).links) k2).to_).toNat)).type) ((get a0.YI (((get ((get a2.nodes k0).links) k2).d5y).toNat)).value)) default).bind fun v32 =>
 bif (bif (!v28) then true else (!v32)) then
  (d4s 12 (↑k0 : Int)).bind fun v33 =>
  some (.ret (.ret v33))
 else
  some (.nxt ())
def d5R (t2 : Unit) : Option (Ctl (Yf) (Unit) (Unit)) :=
 some (.nxt ())
def d5P (a2 : Yx) (a0 : Ym) (a1 : Yy) (k0 : Nat) (s0 : Unit) : Option (Ctl (Yf) (Unit) (Unit)) :=
 YN (Zi (d5Q a2 k0 a0 a1) (((get a2.nodes k0).links).length) ()) (d5R)
def d5S (n : Nat) (a2 : Yx) (t0 : Unit) : Option (Yf) :=
 (d3M n a2).bind fun v34 =>
 bif (decide (0 ≤ v34)) then
  (d4s 5 v34).bind fun v35 =>
  some v35
 else
  some (Yf.mk 0 0)
def d4X (n : Nat) (a0 : Ym) (a1 : Yy) (a2 : Yx) : Option (Yf) :=
 (d8b a0 a2).bind fun v1 =>
 bif (!decide (v1.code = 0)) then
  some v1
 else
  YN (Zi (d5P a2 a0 a1) a2.nodes.length ()) (d5S n a2)
def d8y (a0 : Int) : Option (Bool) :=
 some false
def d5r (a0 : Int) (a1 : Int) : Option (Int) :=
 (d8y a0).bind fun v1 =>
 (d8y a1).bind fun v2 =>
 bif v1 then
  bif v2 then
   some 0
  else
   some (-1)
 else
  bif v2 then
   some 1
  else
   bif (decide (a0 < a1)) then
    some (-1)
   else
    bif (decide (a1 < a0)) then
     some 1
    else
     some 0
def d5g (a0 : Zh) (a1 : Int) : Option (Int) :=
 (d5r a0.d5y a1).bind fun v1 =>
 some v1
def Zs (a0 : (List Zh)) (a1 : Int) (s0 : Int × Int) : Option (Ctl (Int × Bool) (Int × Int) (Int)) :=
 bif (decide (s0.2 < s0.1)) then
  chk (0 ≤ (wr .i64 (Int.fdiv (wr .u64 (wr .i64 (s0.2 + s0.1))) (2 ^ (min 1 64)))) ∧ (wr .i64 (Int.fdiv (wr .u64 (wr .i64 (s0.2 + s0.1))) (2 ^ (min 1 64)))) < (↑a0.length : Int)) <|
  (d5g (get a0 ((wr .i64 (Int.fdiv (wr .u64 (wr .i64 (s0.2 + s0.1))) (2 ^ (min 1 64)))).toNat)) a1).bind fun v6 =>
  bif (decide (v6 < 0)) then
   some (.nxt (s0.1, (wr .i64 ((wr .i64 (Int.fdiv (wr .u64 (wr .i64 (s0.2 + s0.1))) (2 ^ (min 1 64)))) + 1))))
  else
   some (.nxt ((wr .i64 (Int.fdiv (wr .u64 (wr .i64 (s0.2 + s0.1))) (2 ^ (min 1 64)))), s0.2))
 else
  some (.brk s0.2)
def Zt (a0 : (List Zh)) (a1 : Int) (t0 : Int) : Option (Int × Bool) :=
 chk (d5M (decide (t0 < (↑a0.length : Int))) (0 ≤ t0) ∧ d5M (decide (t0 < (↑a0.length : Int))) (t0 < (↑a0.length : Int))) <|
 (gd (decide (t0 < (↑a0.length : Int))) (d5g (get a0 t0.toNat) a1) default).bind fun v10 =>
 some (t0, (bif (decide (t0 < (↑a0.length : Int))) then (decide (v10 = 0)) else false))
def Zl (n : Nat) (a0 : (List Zh)) (a1 : Int) : Option (Int × Bool) :=
 YN (d2a (Zs a0 a1) n ((↑a0.length : Int), 0)) (Zt a0 a1)
def d5I (n : Nat) (a0 : Yx) (a1 : Int) (a2 : Int) : Option (Int) :=
 chk (0 ≤ a1 ∧ a1 < (↑a0.nodes.length : Int)) <|
 (Zl n ((get a0.nodes a1.toNat).links) a2).bind fun v3 =>
 bif (!v3.2) then
  some (-1)
 else
  chk (0 ≤ v3.1 ∧ v3.1 < (↑(((get a0.nodes a1.toNat).links).length) : Int)) <|
  some ((get ((get a0.nodes a1.toNat).links) v3.1.toNat).to_)
def d1V (n : Nat) (a0 : Yx) (a1 : Int) (k0 : Nat) (s0 : Unit) : Option (Ctl (Bool) (Unit) (Unit)) :=
 (d5I n a0 0 (↑k0 : Int)).bind fun v1 =>
 bif (!decide ((decide (0 ≤ v1)) = (decide ((↑k0 : Int) ≤ a1)))) then
  some (.ret false)
 else
  some (.nxt ())
def d4T (t0 : Unit) : Option (Bool) :=
 some true
def d3y (n : Nat) (a0 : Yx) (a1 : Int) : Option (Bool) :=
 YN (Zi (d1V n a0 a1) 4 ()) (d4T)
def ZU (a0 : Int) (d0a : Int) : Option (Yf) :=
 some (Yf.mk a0 d0a)
def d4c (self : (Ye) → (Int) → (Int) → Option (Int × Int)) (a0 : Ye) (a1 : Int) (k0 : Nat) (s0 : Int) : Option (Ctl (Int × Int) (Int) (Int)) :=
 (self (get a0.args k0) (wr .i64 (a1 + 1)) s0).bind fun v2 =>
 bif (!decide (v2.1 = 0)) then
  some (.ret (v2.1, v2.2))
 else
  some (.nxt v2.2)
def d4d (t0 : Int) : Option (Int × Int) :=
 some (0, t0)
def d2q : Nat → (Ye) → (Int) → (Int) → Option (Int × Int)
 | 0, _, _, _ => none
 | n + 1, a0, a1, d0a =>
  bif (bif (decide (200 < (wr .i64 (d0a + 1)))) then true else (decide (40 < a1))) then
   some (1, (wr .i64 (d0a + 1)))
  else
   bif (!(bif (bif (bif (decide (a0.base = [101])) then true else (decide (a0.base = [116]))) then (decide ((↑a0.args.length : Int) = 0)) else false) then true else (bif (decide (a0.base = [])) then (decide ((↑a0.args.length : Int) = 2)) else false))) then
    some (5, (wr .i64 (d0a + 1)))
   else
    YN (Zi (d4c (d2q n) a0 a1) a0.args.length (wr .i64 (d0a + 1))) (d4d)
def d3N (n : Nat) (a0 : Ye) : Option (Yf) :=
 (d2q n a0 1 0).bind fun v1 =>
 some (Yf.mk v1.1 0)
def d9J (a0 : Ye) : Option (Bool) :=
 some (bif (decide (a0.base = [])) then (decide ((↑a0.args.length : Int) = 0)) else false)
def d2W : Nat → (Yg) → (Int) → (Int) → (Int) → Option (Yf × Int)
 | 0, _, _, _, _ => none
 | n + 1, a0, a1, a2, d0a =>
  bif (bif (decide (200 < (wr .i64 (d0a + 1)))) then true else (decide (40 < a1))) then
   (ZU 1 d0a).bind fun v1 =>
   some (v1, (wr .i64 (d0a + 1)))
  else
   bif (decide (a0.kind = 1)) then
    bif (bif (!decide (a0.index = 0)) then true else (!decide ((↑a0.args.length : Int) = 0))) then
     (ZU 5 d0a).bind fun v2 =>
     some (v2, (wr .i64 (d0a + 1)))
    else
     (termName a0.name).bind fun v3 =>
     bif (!v3) then
      (ZU 10 d0a).bind fun v4 =>
      some (v4, (wr .i64 (d0a + 1)))
     else
      (d3N n a0.type).bind fun v5 =>
      bif (!decide (v5.code = 0)) then
       (ZU 12 d0a).bind fun v6 =>
       some (v6, (wr .i64 (d0a + 1)))
      else
       some ((Yf.mk 0 0), (wr .i64 (d0a + 1)))
   else
    bif (decide (a0.kind = 2)) then
     (gd (!(!decide (a0.name = []))) (d9J a0.type) default).bind fun v7 =>
     bif (bif (bif (!decide (a0.name = [])) then true else (!v7)) then true else (!decide ((↑a0.args.length : Int) = 0))) then
      (ZU 5 d0a).bind fun v8 =>
      some (v8, (wr .i64 (d0a + 1)))
     else
      bif (bif (decide (a0.index < 0)) then true else (decide (a2 ≤ a0.index))) then
       (ZU 15 d0a).bind fun v9 =>
       some (v9, (wr .i64 (d0a + 1)))
      else
       some ((Yf.mk 0 0), (wr .i64 (d0a + 1)))
    else
     bif (decide (a0.kind = 3)) then
      bif (bif (bif (!decide (a0.name = [])) then true else (!decide (a0.index = 0))) then true else (!decide ((↑a0.args.length : Int) = 1))) then
       (ZU 5 d0a).bind fun v10 =>
       some (v10, (wr .i64 (d0a + 1)))
      else
       (d3N n a0.type).bind fun v11 =>
       bif (!decide (v11.code = 0)) then
        (ZU 12 d0a).bind fun v12 =>
        some (v12, (wr .i64 (d0a + 1)))
       else
        chk (0 < (↑a0.args.length : Int)) <|
        (d2W n (get a0.args 0) (wr .i64 (a1 + 1)) (wr .i64 (a2 + 1)) (wr .i64 (d0a + 1))).bind fun v14 =>
        some (v14.1, v14.2)
     else
      bif (decide (a0.kind = 4)) then
       (gd (!(bif (!decide (a0.name = [])) then true else (!decide (a0.index = 0)))) (d9J a0.type) default).bind fun v15 =>
       bif (bif (bif (bif (!decide (a0.name = [])) then true else (!decide (a0.index = 0))) then true else (!v15)) then true else (!decide ((↑a0.args.length : Int) = 2))) then
        (ZU 5 d0a).bind fun v16 =>
        some (v16, (wr .i64 (d0a + 1)))
       else
        chk (0 < (↑a0.args.length : Int)) <|
        (d2W n (get a0.args 0) (wr .i64 (a1 + 1)) a2 (wr .i64 (d0a + 1))).bind fun v18 =>
        bif (!decide (v18.1.code = 0)) then
         some (v18.1, v18.2)
        else
         chk (1 < (↑a0.args.length : Int)) <|
         (d2W n (get a0.args 1) (wr .i64 (a1 + 1)) a2 v18.2).bind fun v20 =>
         some (v20.1, v20.2)
      else
       (ZU 4 d0a).bind fun v21 =>
       some (v21, (wr .i64 (d0a + 1)))
def d6B (self : (Ye) → (Ye) → Option (Bool)) (a1 : Ye) (a0 : Ye) (k0 : Nat) (s0 : Unit) : Option (Ctl (Bool) (Unit) (Unit)) :=
 chk ((↑k0 : Int) < (↑a1.args.length : Int)) <|
 (self (get a0.args k0) (get a1.args k0)).bind fun v3 =>
 bif (!v3) then
  some (.ret false)
 else
  some (.nxt ())
def d6C (t0 : Unit) : Option (Bool) :=
 some true
def d3p : Nat → (Ye) → (Ye) → Option (Bool)
 | 0, _, _ => none
 | n + 1, a0, a1 =>
  bif (bif (!decide (a0.base = a1.base)) then true else (!decide ((↑a0.args.length : Int) = (↑a1.args.length : Int)))) then
   some false
  else
   chk (a0.args.length ≤ 9223372036854775807) <|
   YN (Zi (d6B (d3p n) a1 a0) a0.args.length ()) (d6C)
def d2s : Nat → (Yg) → ((List Ye)) → Option (Ye × Bool)
 | 0, _, _ => none
 | n + 1, a0, l0 =>
  bif (decide (a0.kind = 1)) then
   some (a0.type, true)
  else
   bif (decide (a0.kind = 2)) then
    chk (0 ≤ (wr .i64 ((wr .i64 ((↑l0.length : Int) - 1)) - a0.index)) ∧ (wr .i64 ((wr .i64 ((↑l0.length : Int) - 1)) - a0.index)) < (↑l0.length : Int)) <|
    some ((get l0 ((wr .i64 ((wr .i64 ((↑l0.length : Int) - 1)) - a0.index)).toNat)), true)
   else
    bif (decide (a0.kind = 3)) then
     chk (0 ≤ (↑l0.length : Int) ∧ 0 ≤ (↑l0.length : Int)) <|
     d5A (l0 ++ [a0.type]) fun c8 =>
     chk (c8.length * 40 ≤ top ∧ c8.length ≤ top) <|
     chk (0 < (↑a0.args.length : Int)) <|
     (d2s n (get a0.args 0) c8).bind fun v14 =>
     some ((Ye.mk [] [a0.type, v14.1]), v14.2)
    else
     chk (0 < (↑a0.args.length : Int)) <|
     (d2s n (get a0.args 0) l0).bind fun v17 =>
     chk (1 < (↑a0.args.length : Int)) <|
     (d2s n (get a0.args 1) l0).bind fun v19 =>
     chk (d5M (!(bif (bif (!v17.2) then true else (!v19.2)) then true else (!decide ((↑v17.1.args.length : Int) = 2)))) (0 < (↑v17.1.args.length : Int))) <|
     (gd (!(bif (bif (!v17.2) then true else (!v19.2)) then true else (!decide ((↑v17.1.args.length : Int) = 2)))) (d3p n (get v17.1.args 0) v19.1) default).bind fun v22 =>
     bif (bif (bif (bif (!v17.2) then true else (!v19.2)) then true else (!decide ((↑v17.1.args.length : Int) = 2))) then true else (!v22)) then
      some ((Ye.mk [] []), false)
     else
      chk (1 < (↑v17.1.args.length : Int)) <|
      some ((get v17.1.args 1), true)
def d4M : Nat → (Yg) → ((List Ye)) → Option (Ye × Bool)
 | 0, _, _ => none
 | n + 1, a0, a1 =>
  bif (decide (a0.kind = 1)) then
   some (a0.type, true)
  else
   bif (decide (a0.kind = 2)) then
    chk (0 ≤ (wr .i64 ((wr .i64 ((↑a1.length : Int) - 1)) - a0.index)) ∧ (wr .i64 ((wr .i64 ((↑a1.length : Int) - 1)) - a0.index)) < (↑a1.length : Int)) <|
    some ((get a1 ((wr .i64 ((wr .i64 ((↑a1.length : Int) - 1)) - a0.index)).toNat)), true)
   else
    bif (decide (a0.kind = 3)) then
     chk (0 ≤ (↑a1.length : Int) ∧ 0 ≤ (↑a1.length : Int)) <|
     d5A (a1 ++ [a0.type]) fun c6 =>
     chk (c6.length * 40 ≤ top ∧ c6.length ≤ top) <|
     chk (0 < (↑a0.args.length : Int)) <|
     (d2s n (get a0.args 0) c6).bind fun v12 =>
     some ((Ye.mk [] [a0.type, v12.1]), v12.2)
    else
     chk (0 < (↑a0.args.length : Int)) <|
     (d4M n (get a0.args 0) a1).bind fun v15 =>
     chk (1 < (↑a0.args.length : Int)) <|
     (d4M n (get a0.args 1) a1).bind fun v17 =>
     chk (d5M (!(bif (bif (!v15.2) then true else (!v17.2)) then true else (!decide ((↑v15.1.args.length : Int) = 2)))) (0 < (↑v15.1.args.length : Int))) <|
     (gd (!(bif (bif (!v15.2) then true else (!v17.2)) then true else (!decide ((↑v15.1.args.length : Int) = 2)))) (d3p n (get v15.1.args 0) v17.1) default).bind fun v20 =>
     bif (bif (bif (bif (!v15.2) then true else (!v17.2)) then true else (!decide ((↑v15.1.args.length : Int) = 2))) then true else (!v20)) then
      some ((Ye.mk [] []), false)
     else
      chk (1 < (↑v15.1.args.length : Int)) <|
      some ((get v15.1.args 1), true)
def d4m (n : Nat) (a0 : Yg) : Option (Yf) :=
 (d2W n a0 1 0 0).bind fun v1 =>
 bif (!decide (v1.1.code = 0)) then
  some v1.1
 else
  (d4M n a0 []).bind fun v2 =>
  bif (!v2.2) then
   some (Yf.mk 12 (-1))
  else
   some (Yf.mk 0 0)
def d7b (n : Nat) (a0 : Ym) (a1 : Yy) (a2 : Yh) : Option (Int) :=
 bif (bif (bif (bif (decide (a2.kids < 1)) then true else (decide (3 < a2.kids))) then true else (decide (a2.weight < 0))) then true else (decide (1000000 < a2.weight))) then
  some 3
 else
  (d4X n a0 a1 a2.graph).bind fun v1 =>
  bif (!decide (v1.code = 0)) then
   some v1.code
  else
   (d3y n a2.graph a2.kids).bind fun v2 =>
   bif (!v2) then
    some 5
   else
    (d4m n a2.meaning).bind fun v3 =>
    some v3.code
def d0o (a0 : Bs) (s0 : Nat × Int) : Option (Ctl (Int) (Nat × Int) (Int)) :=
 bif (decide (s0.1 < a0.length)) then
  some (.nxt ((s0.1 + d5Y a0 s0.1), (wr .i64 (s0.2 + 1))))
 else
  some (.brk s0.2)
def d1D (t0 : Int) : Option (Int) :=
 some t0
def d0f (n : Nat) (a0 : Bs) : Option (Int) :=
 YN (d2a (d0o a0) n (0, 0)) (d1D)
def Zm (a0 : Bs) : Option (Int) :=
 bif false then
  chk (0 < (↑a0.length : Int)) <|
  chk (1 < (↑a0.length : Int)) <|
  chk (2 < (↑a0.length : Int)) <|
  chk (3 < (↑a0.length : Int)) <|
  some (d1t .or .u64 (d1t .or .u64 (d1t .or .u64 (wr .u64 (Yu a0 0)) (wr .u64 ((wr .u64 (Yu a0 1)) * 2 ^ (min 8 64)))) (wr .u64 ((wr .u64 (Yu a0 2)) * 2 ^ (min 16 64)))) (wr .u64 ((wr .u64 (Yu a0 3)) * 2 ^ (min 24 64))))
 else
  chk (0 < (↑a0.length : Int)) <|
  chk (1 < (↑a0.length : Int)) <|
  chk (2 < (↑a0.length : Int)) <|
  chk (3 < (↑a0.length : Int)) <|
  chk (4 < (↑a0.length : Int)) <|
  chk (5 < (↑a0.length : Int)) <|
  chk (6 < (↑a0.length : Int)) <|
  chk (7 < (↑a0.length : Int)) <|
  some (d1t .or .u64 (d1t .or .u64 (d1t .or .u64 (d1t .or .u64 (d1t .or .u64 (d1t .or .u64 (d1t .or .u64 (wr .u64 (Yu a0 0)) (wr .u64 ((wr .u64 (Yu a0 1)) * 2 ^ (min 8 64)))) (wr .u64 ((wr .u64 (Yu a0 2)) * 2 ^ (min 16 64)))) (wr .u64 ((wr .u64 (Yu a0 3)) * 2 ^ (min 24 64)))) (wr .u64 ((wr .u64 (Yu a0 4)) * 2 ^ (min 32 64)))) (wr .u64 ((wr .u64 (Yu a0 5)) * 2 ^ (min 40 64)))) (wr .u64 ((wr .u64 (Yu a0 6)) * 2 ^ (min 48 64)))) (wr .u64 ((wr .u64 (Yu a0 7)) * 2 ^ (min 56 64))))
def ZV (j3 : Bs) : Option (Ctl (Bool) (Bs) (Unit)) :=
 some (.nxt j3)
def d0D (s4 : Bs) : Option (Ctl (Ctl (Bool) (Bs) (Unit)) (Bs) (Bs)) :=
 (gd (decide (32 < (↑s4.length : Int))) (Zm s4) default).bind fun v100 =>
 chk (d5M (decide (32 < (↑s4.length : Int))) (8 ≤ s4.length)) <|
 (gd (decide (32 < (↑s4.length : Int))) (Zm (s4.drop 8)) default).bind fun v103 =>
 chk (d5M (decide (32 < (↑s4.length : Int))) (16 ≤ s4.length)) <|
 (gd (decide (32 < (↑s4.length : Int))) (Zm (s4.drop 16)) default).bind fun v106 =>
 chk (d5M (decide (32 < (↑s4.length : Int))) (0 ≤ 24) ∧ d5M (decide (32 < (↑s4.length : Int))) (24 ≤ s4.length)) <|
 (gd (decide (32 < (↑s4.length : Int))) (Zm (s4.drop 24)) default).bind fun v110 =>
 bif (bif (decide (32 < (↑s4.length : Int))) then (decide ((d1t .and .u64 (d1t .or .u64 (d1t .or .u64 v100 v103) (d1t .or .u64 v106 v110)) 9259542123273814144) = 0)) else false) then
  chk (0 ≤ 32 ∧ 32 ≤ s4.length) <|
  some (.nxt (s4.drop 32))
 else
  some (.brk s4)
def d1G (t4 : Bs) : Option (Ctl (Bool) (Bs) (Unit)) :=
 ZV t4
def d0E (n : Nat) (s0 : Bs) : Option (Ctl (Bool) (Bs) (Unit)) :=
 bif (decide (0 < (↑s0.length : Int))) then
  chk (0 < (↑s0.length : Int)) <|
  bif (decide ((Yu s0 0) < 128)) then
   chk (0 ≤ 1 ∧ 1 ≤ s0.length) <|
   (gd (decide (8 < (↑((s0.drop 1).length) : Int))) (Zm (s0.drop 1)) default).bind fun v78 =>
   bif (bif (decide (8 < (↑((s0.drop 1).length) : Int))) then (decide ((d1t .and .u64 v78 9259542123273814144) = 0)) else false) then
    chk (0 ≤ 8 ∧ 8 ≤ (s0.drop 1).length) <|
    (gd (decide (16 < (↑(((s0.drop 1).drop 8).length) : Int))) (Zm ((s0.drop 1).drop 8)) default).bind fun v81 =>
    chk (d5M (decide (16 < (↑(((s0.drop 1).drop 8).length) : Int))) (8 ≤ ((s0.drop 1).drop 8).length)) <|
    (gd (decide (16 < (↑(((s0.drop 1).drop 8).length) : Int))) (Zm (((s0.drop 1).drop 8).drop 8)) default).bind fun v84 =>
    bif (bif (decide (16 < (↑(((s0.drop 1).drop 8).length) : Int))) then (decide ((d1t .and .u64 (d1t .or .u64 v81 v84) 9259542123273814144) = 0)) else false) then
     chk (0 ≤ 16 ∧ 16 ≤ ((s0.drop 1).drop 8).length) <|
     YN (d2a (d0D) n (((s0.drop 1).drop 8).drop 16)) (d1G)
    else
     ZV ((s0.drop 1).drop 8)
   else
    ZV (s0.drop 1)
  else
   chk (0 ≤ (Yu s0 0) ∧ (Yu s0 0) < 256) <|
   chk (0 ≤ (Int.fdiv (get d7Z ((Yu s0 0).toNat)) (2 ^ (min 4 8))) ∧ (Int.fdiv (get d7Z ((Yu s0 0).toNat)) (2 ^ (min 4 8))) < 16) <|
   bif (decide ((wr .i64 (d1t .and .u8 (get d7Z ((Yu s0 0).toNat)) 7)) = 2)) then
    chk (d5M (!(decide ((↑s0.length : Int) < 2))) (1 < (↑s0.length : Int))) <|
    chk (d5M (!(bif (decide ((↑s0.length : Int) < 2)) then true else (decide ((Yu s0 1) < ((get i0p ((Int.fdiv (get d7Z ((Yu s0 0).toNat)) (2 ^ (min 4 8))).toNat)).lo))))) (1 < (↑s0.length : Int))) <|
    bif (bif (bif (decide ((↑s0.length : Int) < 2)) then true else (decide ((Yu s0 1) < ((get i0p ((Int.fdiv (get d7Z ((Yu s0 0).toNat)) (2 ^ (min 4 8))).toNat)).lo)))) then true else (decide (((get i0p ((Int.fdiv (get d7Z ((Yu s0 0).toNat)) (2 ^ (min 4 8))).toNat)).hi) < (Yu s0 1)))) then
     some (.ret false)
    else
     chk (0 ≤ 2 ∧ 2 ≤ s0.length) <|
     some (.nxt (s0.drop 2))
   else
    bif (decide ((wr .i64 (d1t .and .u8 (get d7Z ((Yu s0 0).toNat)) 7)) = 3)) then
     chk (d5M (!(decide ((↑s0.length : Int) < 3))) (1 < (↑s0.length : Int))) <|
     chk (d5M (!(bif (decide ((↑s0.length : Int) < 3)) then true else (decide ((Yu s0 1) < ((get i0p ((Int.fdiv (get d7Z ((Yu s0 0).toNat)) (2 ^ (min 4 8))).toNat)).lo))))) (1 < (↑s0.length : Int))) <|
     chk (d5M (!(bif (bif (decide ((↑s0.length : Int) < 3)) then true else (decide ((Yu s0 1) < ((get i0p ((Int.fdiv (get d7Z ((Yu s0 0).toNat)) (2 ^ (min 4 8))).toNat)).lo)))) then true else (decide (((get i0p ((Int.fdiv (get d7Z ((Yu s0 0).toNat)) (2 ^ (min 4 8))).toNat)).hi) < (Yu s0 1))))) (2 < (↑s0.length : Int))) <|
     chk (d5M (!(bif (bif (bif (decide ((↑s0.length : Int) < 3)) then true else (decide ((Yu s0 1) < ((get i0p ((Int.fdiv (get d7Z ((Yu s0 0).toNat)) (2 ^ (min 4 8))).toNat)).lo)))) then true else (decide (((get i0p ((Int.fdiv (get d7Z ((Yu s0 0).toNat)) (2 ^ (min 4 8))).toNat)).hi) < (Yu s0 1)))) then true else (decide ((Yu s0 2) < 128)))) (2 < (↑s0.length : Int))) <|
     bif (bif (bif (bif (bif (decide ((↑s0.length : Int) < 3)) then true else (decide ((Yu s0 1) < ((get i0p ((Int.fdiv (get d7Z ((Yu s0 0).toNat)) (2 ^ (min 4 8))).toNat)).lo)))) then true else (decide (((get i0p ((Int.fdiv (get d7Z ((Yu s0 0).toNat)) (2 ^ (min 4 8))).toNat)).hi) < (Yu s0 1)))) then true else (decide ((Yu s0 2) < 128))) then true else (decide (191 < (Yu s0 2)))) then
      some (.ret false)
     else
      chk (0 ≤ 3 ∧ 3 ≤ s0.length) <|
      some (.nxt (s0.drop 3))
    else
     bif (decide ((wr .i64 (d1t .and .u8 (get d7Z ((Yu s0 0).toNat)) 7)) = 4)) then
      chk (d5M (!(decide ((↑s0.length : Int) < 4))) (1 < (↑s0.length : Int))) <|
      chk (d5M (!(bif (decide ((↑s0.length : Int) < 4)) then true else (decide ((Yu s0 1) < ((get i0p ((Int.fdiv (get d7Z ((Yu s0 0).toNat)) (2 ^ (min 4 8))).toNat)).lo))))) (1 < (↑s0.length : Int))) <|
      chk (d5M (!(bif (bif (decide ((↑s0.length : Int) < 4)) then true else (decide ((Yu s0 1) < ((get i0p ((Int.fdiv (get d7Z ((Yu s0 0).toNat)) (2 ^ (min 4 8))).toNat)).lo)))) then true else (decide (((get i0p ((Int.fdiv (get d7Z ((Yu s0 0).toNat)) (2 ^ (min 4 8))).toNat)).hi) < (Yu s0 1))))) (2 < (↑s0.length : Int))) <|
      chk (d5M (!(bif (bif (bif (decide ((↑s0.length : Int) < 4)) then true else (decide ((Yu s0 1) < ((get i0p ((Int.fdiv (get d7Z ((Yu s0 0).toNat)) (2 ^ (min 4 8))).toNat)).lo)))) then true else (decide (((get i0p ((Int.fdiv (get d7Z ((Yu s0 0).toNat)) (2 ^ (min 4 8))).toNat)).hi) < (Yu s0 1)))) then true else (decide ((Yu s0 2) < 128)))) (2 < (↑s0.length : Int))) <|
      chk (d5M (!(bif (bif (bif (bif (decide ((↑s0.length : Int) < 4)) then true else (decide ((Yu s0 1) < ((get i0p ((Int.fdiv (get d7Z ((Yu s0 0).toNat)) (2 ^ (min 4 8))).toNat)).lo)))) then true else (decide (((get i0p ((Int.fdiv (get d7Z ((Yu s0 0).toNat)) (2 ^ (min 4 8))).toNat)).hi) < (Yu s0 1)))) then true else (decide ((Yu s0 2) < 128))) then true else (decide (191 < (Yu s0 2))))) (3 < (↑s0.length : Int))) <|
      chk (d5M (!(bif (bif (bif (bif (bif (decide ((↑s0.length : Int) < 4)) then true else (decide ((Yu s0 1) < ((get i0p ((Int.fdiv (get d7Z ((Yu s0 0).toNat)) (2 ^ (min 4 8))).toNat)).lo)))) then true else (decide (((get i0p ((Int.fdiv (get d7Z ((Yu s0 0).toNat)) (2 ^ (min 4 8))).toNat)).hi) < (Yu s0 1)))) then true else (decide ((Yu s0 2) < 128))) then true else (decide (191 < (Yu s0 2)))) then true else (decide ((Yu s0 3) < 128)))) (3 < (↑s0.length : Int))) <|
      bif (bif (bif (bif (bif (bif (bif (decide ((↑s0.length : Int) < 4)) then true else (decide ((Yu s0 1) < ((get i0p ((Int.fdiv (get d7Z ((Yu s0 0).toNat)) (2 ^ (min 4 8))).toNat)).lo)))) then true else (decide (((get i0p ((Int.fdiv (get d7Z ((Yu s0 0).toNat)) (2 ^ (min 4 8))).toNat)).hi) < (Yu s0 1)))) then true else (decide ((Yu s0 2) < 128))) then true else (decide (191 < (Yu s0 2)))) then true else (decide ((Yu s0 3) < 128))) then true else (decide (191 < (Yu s0 3)))) then
       some (.ret false)
      else
       chk (0 ≤ 4 ∧ 4 ≤ s0.length) <|
       some (.nxt (s0.drop 4))
     else
      some (.ret false)
 else
  some (.brk ())
def d3c (t0 : Unit) : Option (Bool) :=
 some true
def d1x (n : Nat) (a0 : Bs) : Option (Bool) :=
 YN (d2a (d0E n) n a0) (d3c)
def d3I (a0 : Bs) (a1 : Int) : Option (Int) :=
 (indexByte a0 a1).bind fun v1 =>
 some v1
def d3i (a0 : Int) : Option (Bool) :=
 bif (bif (decide (0 ≤ a0)) then (decide (a0 < 55296)) else false) then
  some true
 else
  bif (bif (decide (57343 < a0)) then (decide (a0 ≤ 1114111)) else false) then
   some true
  else
   some false
def d3A (a0 : Bs) (s0 : Nat) : Option (Ctl (Int) (Nat) (Unit)) :=
 bif (decide (s0 < a0.length)) then
  chk (s0 < a0.length) <|
  bif (decide ((rune a0 s0) = 65533)) then
   some (.ret (↑s0 : Int))
  else
   some (.nxt (s0 + d5Y a0 s0))
 else
  some (.brk ())
def d5a (t0 : Unit) : Option (Int) :=
 some (-1)
def d5b (a1 : Int) (j2 : Int) (a0 : Bs) (s3 : Int) : Option (Ctl (Ctl (Int) (Unit) (Unit)) (Int) (Unit)) :=
 bif (decide (s3 < (↑((ZO a1).length) : Int))) then
  chk (0 ≤ (wr .i64 (j2 - s3)) ∧ (wr .i64 (j2 - s3)) < (↑a0.length : Int)) <|
  chk (0 ≤ (wr .i64 ((wr .i64 ((↑((ZO a1).length) : Int) - 1)) - s3)) ∧ (wr .i64 ((wr .i64 ((↑((ZO a1).length) : Int) - 1)) - s3)) < (↑((ZO a1).length) : Int)) <|
  bif (!decide ((Yu a0 (wr .i64 (j2 - s3))) = (Yu (ZO a1) (wr .i64 ((wr .i64 ((↑((ZO a1).length) : Int) - 1)) - s3))))) then
   none
  else
   some (.nxt (wr .i64 (s3 + 1)))
 else
  some (.brk ())
def d5c (j2 : Int) (a1 : Int) (t3 : Unit) : Option (Ctl (Int) (Unit) (Unit)) :=
 some (.ret (wr .i64 (j2 - (wr .i64 ((↑((ZO a1).length) : Int) - 1)))))
def d3D (n : Nat) (a1 : Int) (a0 : Bs) (j2 : Int) : Option (Ctl (Int) (Unit) (Unit)) :=
 YN (d2a (d5b a1 j2 a0) n 1) (d5c j2 a1)
def d2t (n : Nat) (a1 : Int) (a0 : Bs) (s1 : Unit) : Option (Ctl (Int) (Unit) (Unit)) :=
 bif (decide ((wr .i64 ((↑((ZO a1).length) : Int) - 1)) < (↑a0.length : Int))) then
  chk (0 ≤ (wr .i64 ((↑((ZO a1).length) : Int) - 1)) ∧ (wr .i64 ((↑((ZO a1).length) : Int) - 1)) < (↑a0.length : Int)) <|
  chk ((wr .i64 ((↑((ZO a1).length) : Int) - 1)) < (↑((ZO a1).length) : Int)) <|
  bif (!decide ((Yu a0 (wr .i64 ((↑((ZO a1).length) : Int) - 1))) = (Yu (ZO a1) (wr .i64 ((↑((ZO a1).length) : Int) - 1))))) then
   chk (0 ≤ (wr .i64 ((wr .i64 ((↑((ZO a1).length) : Int) - 1)) + 1)) ∧ (wr .i64 ((wr .i64 ((↑((ZO a1).length) : Int) - 1)) + 1)).toNat ≤ a0.length) <|
   (d3I (a0.drop ((wr .i64 ((wr .i64 ((↑((ZO a1).length) : Int) - 1)) + 1)).toNat)) (Yu (ZO a1) (wr .i64 ((↑((ZO a1).length) : Int) - 1)))).bind fun v10 =>
   bif (decide (v10 < 0)) then
    some (.ret (-1))
   else
    d3D n a1 a0 (wr .i64 ((wr .i64 ((↑((ZO a1).length) : Int) - 1)) + (wr .i64 (v10 + 1))))
  else
   d3D n a1 a0 (wr .i64 ((↑((ZO a1).length) : Int) - 1))
 else
  some (.brk ())
def d5d (t1 : Unit) : Option (Int) :=
 some (-1)
def d2N (n : Nat) (a0 : Bs) (a1 : Int) : Option (Int) :=
 bif (bif (decide (0 ≤ a1)) then (decide (a1 < 128)) else false) then
  (d3I a0 (wr .u8 a1)).bind fun v1 =>
  some v1
 else
  bif (decide (a1 = 65533)) then
   YN (d2a (d3A a0) n 0) (d5a)
  else
   (d3i a1).bind fun v4 =>
   bif (!v4) then
    some (-1)
   else
    YN (d2a (d2t n a1 a0) n ()) (d5d)
def d3s (a0 : Int) : Option (Bool) :=
 some (decide (8 < a0))
def d3E (n : Nat) (a0 : Bs) (j0 : Int) : Option (Int) :=
 (d2N n a0 j0).bind fun v2 =>
 some v2
def d3C (n : Nat) (a0 : Bs) (a1 : Bs) (s2 : Nat) : Option (Ctl (Int) (Nat) (Unit)) :=
 bif (decide (s2 < a0.length)) then
  chk (s2 < a0.length) <|
  (d2N n a1 (rune a0 s2)).bind fun v7 =>
  bif (decide (0 ≤ v7)) then
   some (.ret (↑s2 : Int))
  else
   some (.nxt (s2 + d5Y a0 s2))
 else
  some (.brk ())
def d5e (t2 : Unit) : Option (Int) :=
 some (-1)
def d3B (n : Nat) (a0 : Bs) (a1 : Bs) (j1 : Unit) : Option (Int) :=
 YN (d2a (d3C n a0 a1) n 0) (d5e)
def d4U (n : Nat) (a0 : Bs) (a1 : Bs) : Option (Int) :=
 bif (decide (a1 = [])) then
  some (-1)
 else
  bif (decide ((↑a1.length : Int) = 1)) then
   chk (0 < (↑a1.length : Int)) <|
   bif (decide (128 ≤ (wr .i32 (Yu a1 0)))) then
    d3E n a0 65533
   else
    d3E n a0 (wr .i32 (Yu a1 0))
  else
   (d3s (↑a0.length : Int)).bind fun v3 =>
   bif v3 then
    none
   else
    d3B n a0 a1 ()
def d5u (n : Nat) (a0 : Bs) (a1 : Bs) : Option (Int) :=
 bif decide (8 < a0.length) then chk (2 ≤ a1.length ∧ a0.length < 4294967281 ∧ a1.length < 4294967281 ∧ a1.all (fun b => decide (b.toNat < 128)) = true) (some (Lib.indexAny a0 a1))
 else d4U n a0 a1
def d1T (n : Nat) (a0 : Bs) (a1 : Bs) : Option (Bool) :=
 (d5u n a0 a1).bind fun v1 =>
 some (decide (0 ≤ v1))
def d7a (n : Nat) (a0 : Bs) : Option (Bool) :=
 (d0f n a0).bind fun v1 =>
 (gd (bif (decide (1 ≤ v1)) then (decide (v1 ≤ 30)) else false) (d1x n a0) default).bind fun v2 =>
 (gd (bif (bif (decide (1 ≤ v1)) then (decide (v1 ≤ 30)) else false) then v2 else false) (d1T n a0 [32, 9, 10, 40, 41, 91, 93, 44, 59]) default).bind fun v3 =>
 some (bif (bif (bif (decide (1 ≤ v1)) then (decide (v1 ≤ 30)) else false) then v2 else false) then (!v3) else false)
def d6g (n : Nat) (a0 : Ym) (a1 : Yy) (a2 : YR) : Option (Int) :=
 (d7a n a2.word).bind fun v1 =>
 bif (!v1) then
  some 10
 else
  bif (bif (decide (a2.weight < 0)) then true else (decide (1000000 < a2.weight))) then
   some 3
  else
   (d4X n a0 a1 a2.graph).bind fun v2 =>
   bif (!decide (v2.code = 0)) then
    some v2.code
   else
    (d4m n a2.meaning).bind fun v3 =>
    some v3.code
def d4e (n : Nat) (a0 : Yq) (v4 : Yy) (k0 : Nat) (s0 : (List (Bs × Int))) : Option (Ctl (Yf) ((List (Bs × Int))) ((List (Bs × Int)))) :=
 (termName ((get a0.rules k0).name)).bind fun v12 =>
 bif (!v12) then
  (d2j 10 (↑k0 : Int)).bind fun v13 =>
  some (.ret v13)
 else
  bif (assoc ((get a0.rules k0).name) s0).isSome then
   (d2j 7 (↑k0 : Int)).bind fun v14 =>
   some (.ret v14)
  else
   d5A (ZT ((get a0.rules k0).name) (↑k0 : Int) s0) fun c15 =>
   (d7b n a0.hierarchy v4 (get a0.rules k0)).bind fun v17 =>
   bif (!decide (v17 = 0)) then
    (d2j v17 (↑k0 : Int)).bind fun v18 =>
    some (.ret v18)
   else
    some (.nxt c15)
def d4g (n : Nat) (a0 : Yq) (v4 : Yy) (k1 : Nat) (s1 : Unit) : Option (Ctl (Yf) (Unit) (Unit)) :=
 (d6g n a0.hierarchy v4 (get a0.YK k1)).bind fun v19 =>
 bif (!decide (v19 = 0)) then
  (d2j v19 (↑k1 : Int)).bind fun v20 =>
  some (.ret v20)
 else
  some (.nxt ())
def d4h (n : Nat) (a0 : Yq) (v4 : Yy) (t1 : Unit) : Option (Yf) :=
 (d4X n a0.hierarchy v4 a0.start).bind fun v21 =>
 bif (!decide (v21.code = 0)) then
  (d2j v21.code (-1)).bind fun v22 =>
  some v22
 else
  some (Yf.mk 0 0)
def d4f (n : Nat) (a0 : Yq) (v4 : Yy) (t0 : (List (Bs × Int))) : Option (Yf) :=
 YN (Zi (d4g n a0 v4) a0.YK.length ()) (d4h n a0 v4)
def d2v (n : Nat) (a0 : Yq) : Option (Yf) :=
 (d3o a0.hierarchy).bind fun v1 =>
 bif (!decide (v1.code = 0)) then
  some v1
 else
  bif (decide ((↑a0.hierarchy.YI.length : Int) ≤ 3)) then
   (d2j 9 (-1)).bind fun v2 =>
   some v2
  else
   bif (bif (decide (40 < (↑a0.rules.length : Int))) then true else (decide (100 < (↑a0.YK.length : Int)))) then
    (d2j 2 (-1)).bind fun v3 =>
    some v3
   else
    (d3n a0.hierarchy.types).bind fun v4 =>
    YN (Zi (d4e n a0 v4) a0.rules.length []) (d4f n a0 v4)
def d2z (a0 : Bs) (k0 : Nat) (s0 : Unit) : Option (Ctl (Bool) (Unit) (Unit)) :=
 bif (bif (!(bif (decide (97 ≤ (get (bytesOf a0) k0))) then (decide ((get (bytesOf a0) k0) ≤ 122)) else false)) then (bif (!(bif (bif (bif (decide (48 ≤ (get (bytesOf a0) k0))) then (decide ((get (bytesOf a0) k0) ≤ 57)) else false) then true else (decide ((get (bytesOf a0) k0) = 95))) then true else (decide ((get (bytesOf a0) k0) = 45)))) then true else (decide ((↑k0 : Int) = 0))) else false) then
  some (.ret false)
 else
  some (.nxt ())
def d2A (t0 : Unit) : Option (Bool) :=
 some true
def d0O (a0 : Bs) : Option (Bool) :=
 bif (bif (decide ((↑a0.length : Int) < 1)) then true else (decide (30 < (↑a0.length : Int)))) then
  some false
 else
  chk (a0.length ≤ top) <|
  YN (Zi (d2z a0) ((bytesOf a0).length) ()) (d2A)
def d0e (a0 : (List Yj)) (k0 : Nat) (k3 : Nat) (s3 : Unit) : Option (Ctl (Ctl (Yf) (Unit) (Unit)) (Unit) (Unit)) :=
 bif (decide (((get (a0.take k0) k3).name) = ((get a0 k0).name))) then
  some (.ret (.ret (Yf.mk 7 (↑k0 : Int))))
 else
  some (.nxt ())
def d0U (a0 : (List Yj)) (k0 : Nat) (k4 : Nat) (s4 : Unit) : Option (Ctl (Ctl (Yf) (Unit) (Unit)) (Unit) (Unit)) :=
 bif (bif (decide ((get ((get a0 k0).parents) k4) < 0)) then true else (decide ((↑k0 : Int) ≤ (get ((get a0 k0).parents) k4)))) then
  some (.ret (.ret (Yf.mk 3 (↑k0 : Int))))
 else
  chk (d5M (decide (0 < (↑k4 : Int))) (0 ≤ (wr .i64 ((↑k4 : Int) - 1))) ∧ d5M (decide (0 < (↑k4 : Int))) ((wr .i64 ((↑k4 : Int) - 1)) < (↑(((get a0 k0).parents).length) : Int))) <|
  bif (bif (decide (0 < (↑k4 : Int))) then (decide ((get ((get a0 k0).parents) k4) ≤ (get ((get a0 k0).parents) ((wr .i64 ((↑k4 : Int) - 1)).toNat)))) else false) then
   some (.ret (.ret (Yf.mk 13 (↑k0 : Int))))
  else
   some (.nxt ())
def d0V (t4 : Unit) : Option (Ctl (Yf) (Unit) (Unit)) :=
 some (.nxt ())
def d0T (k0 : Nat) (a0 : (List Yj)) (t3 : Unit) : Option (Ctl (Yf) (Unit) (Unit)) :=
 bif (!decide ((decide ((↑k0 : Int) = 0)) = (decide ((↑(((get a0 k0).parents).length) : Int) = 0)))) then
  some (.ret (Yf.mk 5 (↑k0 : Int)))
 else
  YN (Zi (d0U a0 k0) (((get a0 k0).parents).length) ()) (d0V)
def d0S (a0 : (List Yj)) (k0 : Nat) (s0 : Unit) : Option (Ctl (Yf) (Unit) (Unit)) :=
 (d0O ((get a0 k0).name)).bind fun v10 =>
 bif (!v10) then
  some (.ret (Yf.mk 10 (↑k0 : Int)))
 else
  chk (0 ≤ (↑k0 : Int) ∧ k0 ≤ a0.length) <|
  YN (Zi (d0e a0 k0) ((a0.take k0).length) ()) (d0T k0 a0)
def d2h (t0 : Unit) : Option (Yf) :=
 some (Yf.mk 0 0)
def ZB (a0 : (List Yj)) : Option (Yf) :=
 bif (bif (decide ((↑a0.length : Int) = 0)) then true else (decide (60 < (↑a0.length : Int)))) then
  some (Yf.mk 2 (-1))
 else
  YN (Zi (d0S a0) a0.length ()) (d2h)
def i0X (n : Nat) (a0 : List Yj) : Option (List (List Bool)) :=
 chk (a0.length * 24 ≤ top) <|
 chk (((List.range a0.length).all fun i => (List.range a0.length).all fun j => (Za n a0 (i : Int) (j : Int)).isSome) = true) <|
 some (tf a0.length a0.length fun (i j : Nat) => (Za n a0 (i : Int) (j : Int)).getD false)
def d2d (v1 : (List (List Bool))) (k4 : Nat) (k0 : Nat) (k5 : Nat) (s5 : Int) : Option (Ctl (Ctl (Ctl (Int) (Unit) (Unit)) (Unit) (Unit)) (Int) (Int)) :=
 chk ((↑k5 : Int) < (↑v1.length : Int)) <|
 chk ((↑k4 : Int) < (↑((get v1 k5).length) : Int)) <|
 chk (d5M (get (get v1 k5) k4) (k0 < ((get v1 k5).length))) <|
 bif (bif (get (get v1 k5) k4) then (get (get v1 k5) k0) else false) then
  bif (decide (s5 < 0)) then
   some (.nxt (↑k5 : Int))
  else
   chk (0 ≤ s5 ∧ s5 < (↑((get v1 k5).length) : Int)) <|
   bif (!(get (get v1 k5) s5.toNat)) then
    some (.ret (.ret (.ret (↑k0 : Int))))
   else
    some (.nxt s5)
 else
  some (.nxt s5)
def d2e (t5 : Int) : Option (Ctl (Ctl (Int) (Unit) (Unit)) (Unit) (Unit)) :=
 some (.nxt ())
def d2c (a0 : (List Yj)) (v1 : (List (List Bool))) (k0 : Nat) (k4 : Nat) (s4 : Unit) : Option (Ctl (Ctl (Int) (Unit) (Unit)) (Unit) (Unit)) :=
 chk (a0.length ≤ 9223372036854775807) <|
 YN (Zi (d2d v1 k4 k0) a0.length (-1)) (d2e)
def d2f (t4 : Unit) : Option (Ctl (Int) (Unit) (Unit)) :=
 some (.nxt ())
def d2b (a0 : (List Yj)) (v1 : (List (List Bool))) (k0 : Nat) (s0 : Unit) : Option (Ctl (Int) (Unit) (Unit)) :=
 chk (k0 ≤ 9223372036854775807) <|
 YN (Zi (d2c a0 v1 k0) k0 ()) (d2f)
def d2g (t0 : Unit) : Option (Int) :=
 some (-1)
def d1Y (n : Nat) (a0 : (List Yj)) : Option (Int) :=
 (i0X n a0).bind fun v1 =>
 chk (a0.length ≤ 9223372036854775807) <|
 YN (Zi (d2b a0 v1) a0.length ()) (d2g)
def ZD (a0 : Ym) (k0 : Nat) (k2 : Nat) (s2 : Unit) : Option (Ctl (Ctl (Yf) (Unit) (Unit)) (Unit) (Unit)) :=
 bif (decide (((get (a0.YI.take k0) k2).name) = ((get a0.YI k0).name))) then
  some (.ret (.ret (Yf.mk 7 (↑k0 : Int))))
 else
  some (.nxt ())
def d0k (a0 : Ym) (k0 : Nat) (t2 : Unit) : Option (Ctl (Yf) (Unit) (Unit)) :=
 bif (bif (bif (bif (decide (((get a0.YI k0).of_) < 0)) then true else (decide ((↑a0.types.length : Int) ≤ ((get a0.YI k0).of_)))) then true else (decide (((get a0.YI k0).value) < 0))) then true else (decide ((↑a0.types.length : Int) ≤ ((get a0.YI k0).value)))) then
  some (.ret (Yf.mk 3 (↑k0 : Int)))
 else
  some (.nxt ())
def ZC (a0 : Ym) (k0 : Nat) (s0 : Unit) : Option (Ctl (Yf) (Unit) (Unit)) :=
 (d0O ((get a0.YI k0).name)).bind fun v6 =>
 bif (!v6) then
  some (.ret (Yf.mk 10 (↑k0 : Int)))
 else
  chk (0 ≤ (↑k0 : Int) ∧ k0 ≤ a0.YI.length) <|
  YN (Zi (ZD a0 k0) ((a0.YI.take k0).length) ()) (d0k a0 k0)
def d0j (t0 : Unit) : Option (Yf) :=
 some (Yf.mk 0 0)
def ZR (n : Nat) (a0 : Ym) : Option (Yf) :=
 bif (decide (40 < (↑a0.YI.length : Int))) then
  some (Yf.mk 2 (-1))
 else
  (ZB a0.types).bind fun v1 =>
  bif (!decide (v1.code = 0)) then
   some v1
  else
   (d1Y n a0.types).bind fun v2 =>
   bif (decide (0 ≤ v2)) then
    some (Yf.mk 16 v2)
   else
    YN (Zi (ZC a0) a0.YI.length ()) (d0j)
def d0X (a1 : Yx) (k0 : Nat) (a0 : Ym) (k2 : Nat) (s2 : Unit) : Option (Ctl (Ctl (Yf) (Unit) (Unit)) (Unit) (Unit)) :=
 bif (bif (bif (bif (decide (((get ((get a1.nodes k0).links) k2).d5y) < 0)) then true else (decide ((↑a0.YI.length : Int) ≤ ((get ((get a1.nodes k0).links) k2).d5y)))) then true else (decide (((get ((get a1.nodes k0).links) k2).to_) < 0))) then true else (decide ((↑a1.nodes.length : Int) ≤ ((get ((get a1.nodes k0).links) k2).to_)))) then
  some (.ret (.ret (Yf.mk 3 (↑k0 : Int))))
 else
  chk (d5M (decide (0 < (↑k2 : Int))) (0 ≤ (wr .i64 ((↑k2 : Int) - 1))) ∧ d5M (decide (0 < (↑k2 : Int))) ((wr .i64 ((↑k2 : Int) - 1)) < (↑(((get a1.nodes k0).links).length) : Int))) <|
  bif (bif (decide (0 < (↑k2 : Int))) then (decide (((get ((get a1.nodes k0).links) k2).d5y) ≤ ((get ((get a1.nodes k0).links) ((wr .i64 ((↑k2 : Int) - 1)).toNat)).d5y))) else false) then
   some (.ret (.ret (Yf.mk 13 (↑k0 : Int))))
  else
   some (.nxt ())
def d0Y (t2 : Unit) : Option (Ctl (Yf) (Unit) (Unit)) :=
 some (.nxt ())
def d0W (a1 : Yx) (a0 : Ym) (k0 : Nat) (s0 : Unit) : Option (Ctl (Yf) (Unit) (Unit)) :=
 bif (bif (decide (((get a1.nodes k0).type) < 0)) then true else (decide ((↑a0.types.length : Int) ≤ ((get a1.nodes k0).type)))) then
  some (.ret (Yf.mk 3 (↑k0 : Int)))
 else
  YN (Zi (d0X a1 k0 a0) (((get a1.nodes k0).links).length) ()) (d0Y)
def d2i (t0 : Unit) : Option (Yf) :=
 some (Yf.mk 0 0)
def d0B (a0 : Ym) (a1 : Yx) : Option (Yf) :=
 bif (bif (decide ((↑a1.nodes.length : Int) = 0)) then true else (decide (60 < (↑a1.nodes.length : Int)))) then
  some (Yf.mk 2 (-2))
 else
  YN (Zi (d0W a1 a0) a1.nodes.length ()) (d2i)
def d1h (k4 : Nat) (a0 : Yx) (k6 : Nat) (s6 : (List Bool)) : Option (Ctl (Ctl (Ctl (Int) ((List Bool)) ((List Bool))) ((List Bool)) ((List Bool))) ((List Bool)) ((List Bool))) :=
 chk ((↑k4 : Int) < (↑s6.length : Int)) <|
 bif (get s6 k4) then
  chk (0 ≤ (get ((get a0.nodes k4).links) k6).to_ ∧ (get ((get a0.nodes k4).links) k6).to_ < (↑s6.length : Int)) <|
  d5A (s6.set (((get ((get a0.nodes k4).links) k6).to_).toNat) true) fun c88 =>
  some (.nxt c88)
 else
  some (.nxt s6)
def d1i (t6 : (List Bool)) : Option (Ctl (Ctl (Int) ((List Bool)) ((List Bool))) ((List Bool)) ((List Bool))) :=
 some (.nxt t6)
def d1g (a0 : Yx) (k4 : Nat) (s4 : (List Bool)) : Option (Ctl (Ctl (Int) ((List Bool)) ((List Bool))) ((List Bool)) ((List Bool))) :=
 YN (Zi (d1h k4 a0) (((get a0.nodes k4).links).length) s4) (d1i)
def d1j (t4 : (List Bool)) : Option (Ctl (Int) ((List Bool)) ((List Bool))) :=
 some (.nxt t4)
def d1f (a0 : Yx) (k0 : Nat) (s0 : (List Bool)) : Option (Ctl (Int) ((List Bool)) ((List Bool))) :=
 YN (Zi (d1g a0) a0.nodes.length s0) (d1j)
def d1k (t0 : (List Bool)) : Option (Int) :=
 (ZP t0 false).bind fun v91 =>
 some v91
def d0h (a0 : Yx) : Option (Int) :=
 chk (a0.nodes.length * 1 ≤ top ∧ a0.nodes.length ≤ top) <|
 chk (0 < (↑a0.nodes.length : Int)) <|
 d5A ((List.replicate a0.nodes.length (default : Bool)).set 0 true) fun c7 =>
 chk (a0.nodes.length ≤ 9223372036854775807) <|
 YN (Zi (d1f a0) a0.nodes.length c7) (d1k)
def d0I (n : Nat) (a1 : Yx) (k0 : Nat) (a0 : Ym) (k2 : Nat) (s2 : Unit) : Option (Ctl (Ctl (Yf) (Unit) (Unit)) (Unit) (Unit)) :=
 chk (0 ≤ (get ((get a1.nodes k0).links) k2).d5y ∧ (get ((get a1.nodes k0).links) k2).d5y < (↑a0.YI.length : Int)) <|
 (Za n a0.types ((get a1.nodes k0).type) ((get a0.YI (((get ((get a1.nodes k0).links) k2).d5y).toNat)).of_)).bind fun v25 =>
 chk (d5M (!(!v25)) (0 ≤ (get ((get a1.nodes k0).links) k2).to_) ∧ d5M (!(!v25)) ((get ((get a1.nodes k0).links) k2).to_ < (↑a1.nodes.length : Int))) <|
 (gd (!(!v25)) (Za n a0.types ((get a1.nodes (((get ((get a1.nodes k0).links) k2).to_).toNat)).type) ((get a0.YI (((get ((get a1.nodes k0).links) k2).d5y).toNat)).value)) default).bind fun v29 =>
 bif (bif (!v25) then true else (!v29)) then
  some (.ret (.ret (Yf.mk 12 (↑k0 : Int))))
 else
  some (.nxt ())
def d0J (t2 : Unit) : Option (Ctl (Yf) (Unit) (Unit)) :=
 some (.nxt ())
def d0H (n : Nat) (a1 : Yx) (a0 : Ym) (k0 : Nat) (s0 : Unit) : Option (Ctl (Yf) (Unit) (Unit)) :=
 YN (Zi (d0I n a1 k0 a0) (((get a1.nodes k0).links).length) ()) (d0J)
def d0K (a1 : Yx) (t0 : Unit) : Option (Yf) :=
 (d0h a1).bind fun v30 =>
 bif (decide (0 ≤ v30)) then
  some (Yf.mk 5 v30)
 else
  some (Yf.mk 0 0)
def Zx (n : Nat) (a0 : Ym) (a1 : Yx) : Option (Yf) :=
 (d0B a0 a1).bind fun v1 =>
 bif (!decide (v1.code = 0)) then
  some v1
 else
  YN (Zi (d0H n a1 a0) a1.nodes.length ()) (d0K a1)
def d1Q (a0 : Yx) (a1 : Int) (a2 : Int) (k0 : Nat) (s0 : Unit) : Option (Ctl (Int) (Unit) (Unit)) :=
 bif (decide (((get ((get a0.nodes a1.toNat).links) k0).d5y) = a2)) then
  some (.ret ((get ((get a0.nodes a1.toNat).links) k0).to_))
 else
  some (.nxt ())
def d1R (t0 : Unit) : Option (Int) :=
 some (-1)
def d1L (a0 : Yx) (a1 : Int) (a2 : Int) : Option (Int) :=
 chk (0 ≤ a1 ∧ a1 < (↑a0.nodes.length : Int)) <|
 YN (Zi (d1Q a0 a1 a2) (((get a0.nodes a1.toNat).links).length) ()) (d1R)
def d1M (a0 : Ye) : Option (Bool) :=
 some (bif (decide (a0.base = [])) then (decide ((↑a0.args.length : Int) = 0)) else false)
def d2C (a0 : Bs) (s0 : Int) : Option (Ctl (Bool) (Int) (Unit)) :=
 bif (decide (s0 < (↑a0.length : Int))) then
  chk (0 ≤ s0 ∧ s0 < (↑a0.length : Int)) <|
  bif (bif (!(bif (decide (97 ≤ (Yu a0 s0))) then (decide ((Yu a0 s0) ≤ 122)) else false)) then (bif (decide (s0 = 0)) then true else (!(bif (bif (bif (decide (48 ≤ (Yu a0 s0))) then (decide ((Yu a0 s0) ≤ 57)) else false) then true else (decide ((Yu a0 s0) = 95))) then true else (decide ((Yu a0 s0) = 45))))) else false) then
   some (.ret false)
  else
   some (.nxt (wr .i64 (s0 + 1)))
 else
  some (.brk ())
def d3T (t0 : Unit) : Option (Bool) :=
 some true
def d2r (n : Nat) (a0 : Bs) : Option (Bool) :=
 bif (bif (decide ((↑a0.length : Int) < 1)) then true else (decide (30 < (↑a0.length : Int)))) then
  some false
 else
  YN (d2a (d2C a0) n 0) (d3T)
def YZ (s0 : (List Yn) × Int × Nat) : Option (Ctl (Int) ((List Yn) × Int × Nat) (Unit)) :=
 bif (decide (0 < (↑s0.2.2 : Int))) then
  chk (s0.2.2 ≤ s0.1.length) <|
  chk (0 ≤ (wr .i64 ((↑s0.2.2 : Int) - 1)) ∧ (wr .i64 ((↑s0.2.2 : Int) - 1)) < (↑s0.2.2 : Int)) <|
  chk ((wr .i64 ((↑s0.2.2 : Int) - 1)).toNat ≤ s0.2.2) <|
  bif (bif (decide (200 < (wr .i64 (s0.2.1 + 1)))) then true else (decide (40 < ((get s0.1 ((wr .i64 ((↑s0.2.2 : Int) - 1)).toNat)).depth)))) then
   some (.ret 1)
  else
   bif (decide (((get s0.1 ((wr .i64 ((↑s0.2.2 : Int) - 1)).toNat)).s.base) = [])) then
    bif (!decide ((↑(((get s0.1 ((wr .i64 ((↑s0.2.2 : Int) - 1)).toNat)).s.args).length) : Int) = 2)) then
     some (.ret 5)
    else
     chk (1 < (↑(((get s0.1 ((wr .i64 ((↑s0.2.2 : Int) - 1)).toNat)).s.args).length) : Int)) <|
     chk (0 < (↑(((get s0.1 ((wr .i64 ((↑s0.2.2 : Int) - 1)).toNat)).s.args).length) : Int)) <|
     chk ((wr .i64 ((↑s0.2.2 : Int) - 1)).toNat ≤ s0.1.length) <|
     d5A ((s0.1.take ((wr .i64 ((↑s0.2.2 : Int) - 1)).toNat)) ++ [(Yn.mk (get ((get s0.1 ((wr .i64 ((↑s0.2.2 : Int) - 1)).toNat)).s.args) 1) (wr .i64 (((get s0.1 ((wr .i64 ((↑s0.2.2 : Int) - 1)).toNat)).depth) + 1))), (Yn.mk (get ((get s0.1 ((wr .i64 ((↑s0.2.2 : Int) - 1)).toNat)).s.args) 0) (wr .i64 (((get s0.1 ((wr .i64 ((↑s0.2.2 : Int) - 1)).toNat)).depth) + 1)))]) fun c25 =>
     chk (c25.length * 48 ≤ top ∧ c25.length ≤ top) <|
     some (.nxt (c25, (wr .i64 (s0.2.1 + 1)), c25.length))
   else
    bif (bif (bif (!decide (((get s0.1 ((wr .i64 ((↑s0.2.2 : Int) - 1)).toNat)).s.base) = [101])) then (!decide (((get s0.1 ((wr .i64 ((↑s0.2.2 : Int) - 1)).toNat)).s.base) = [116])) else false) then true else (!decide ((↑(((get s0.1 ((wr .i64 ((↑s0.2.2 : Int) - 1)).toNat)).s.args).length) : Int) = 0))) then
     some (.ret 5)
    else
     some (.nxt (s0.1, (wr .i64 (s0.2.1 + 1)), (wr .i64 ((↑s0.2.2 : Int) - 1)).toNat))
 else
  some (.brk ())
def d0L (t0 : Unit) : Option (Int) :=
 some 0
def d0q (n : Nat) (a0 : Ye) : Option (Int) :=
 YN (d2a (YZ) n ([(Yn.mk a0 1)], 0, 1)) (d0L)
def ZG (a0 : (List YD)) (s0 : Int × Int) : Option (Ctl (Int) (Int × Int) (Unit)) :=
 bif (decide (0 ≤ s0.2)) then
  chk (0 ≤ s0.2 ∧ s0.2 < (↑a0.length : Int)) <|
  bif (decide (((get a0 s0.2.toNat).kind) = 3)) then
   bif (decide (s0.1 = 0)) then
    some (.ret s0.2)
   else
    some (.nxt ((wr .i64 (s0.1 - 1)), (get a0 s0.2.toNat).up))
  else
   some (.nxt (s0.1, (get a0 s0.2.toNat).up))
 else
  some (.brk ())
def d3t (t0 : Unit) : Option (Int) :=
 some (-1)
def d0P (n : Nat) (a0 : (List YD)) (a1 : Int) : Option (Int) :=
 chk (0 ≤ a1 ∧ a1 < (↑a0.length : Int)) <|
 YN (d2a (ZG a0) n ((get a0 a1.toNat).index, (get a0 a1.toNat).up)) (d3t)
def d4A (a0 : Ye) (a1 : Ye) : Option (Ye) :=
 some (Ye.mk [] [a0, a1])
def Zj : Nat → (Ye) → Option (Bs)
 | 0, _ => none
 | n + 1, a0 =>
  bif (!decide (a0.base = [])) then
   some a0.base
  else
   chk (0 < (↑a0.args.length : Int)) <|
   (Zj n (get a0.args 0)).bind fun v2 =>
   chk (d6N [40] v2) <|
   chk (d6N (i4t [40] v2) [32]) <|
   chk (1 < (↑a0.args.length : Int)) <|
   (Zj n (get a0.args 1)).bind fun v6 =>
   chk (d6N (i4t (i4t [40] v2) [32]) v6) <|
   chk (d6N (i4t (i4t (i4t [40] v2) [32]) v6) [41]) <|
   some (i4t (i4t (i4t (i4t [40] v2) [32]) v6) [41])
def d1n (n : Nat) (a0 : Ye) (a1 : Ye) : Option (Bool) :=
 (Zj n a0).bind fun v1 =>
 (Zj n a1).bind fun v2 =>
 some (decide (v1 = v2))
def d0i (n : Nat) (v1 : (List YD)) (s0 : (List Ye) × Int) : Option (Ctl (Ye × Bool) ((List Ye) × Int) ((List Ye))) :=
 bif (decide (0 ≤ s0.2)) then
  chk (0 ≤ s0.2 ∧ s0.2 < (↑v1.length : Int)) <|
  bif (decide (((get v1 s0.2.toNat).kind) = 1)) then
   chk (s0.2 < (↑s0.1.length : Int)) <|
   d5A (s0.1.set s0.2.toNat ((get v1 s0.2.toNat).typ)) fun c54 =>
   some (.nxt (c54, (wr .i64 (s0.2 - 1))))
  else
   bif (decide (((get v1 s0.2.toNat).kind) = 2)) then
    (d0P n v1 s0.2).bind fun v57 =>
    chk (0 ≤ v57 ∧ v57 < (↑v1.length : Int)) <|
    chk (s0.2 < (↑s0.1.length : Int)) <|
    d5A (s0.1.set s0.2.toNat ((get v1 v57.toNat).typ)) fun c63 =>
    some (.nxt (c63, (wr .i64 (s0.2 - 1))))
   else
    bif (decide (((get v1 s0.2.toNat).kind) = 3)) then
     chk (0 < (↑(((get v1 s0.2.toNat).kids).length) : Int)) <|
     chk (0 ≤ (get ((get v1 s0.2.toNat).kids) 0) ∧ (get ((get v1 s0.2.toNat).kids) 0) < (↑s0.1.length : Int)) <|
     (d4A ((get v1 s0.2.toNat).typ) (get s0.1 ((get ((get v1 s0.2.toNat).kids) 0).toNat))).bind fun v71 =>
     chk (s0.2 < (↑s0.1.length : Int)) <|
     d5A (s0.1.set s0.2.toNat v71) fun c75 =>
     some (.nxt (c75, (wr .i64 (s0.2 - 1))))
    else
     bif (decide (((get v1 s0.2.toNat).kind) = 4)) then
      chk (0 < (↑(((get v1 s0.2.toNat).kids).length) : Int)) <|
      chk (0 ≤ (get ((get v1 s0.2.toNat).kids) 0) ∧ (get ((get v1 s0.2.toNat).kids) 0) < (↑s0.1.length : Int)) <|
      chk (1 < (↑(((get v1 s0.2.toNat).kids).length) : Int)) <|
      chk (0 ≤ (get ((get v1 s0.2.toNat).kids) 1) ∧ (get ((get v1 s0.2.toNat).kids) 1) < (↑s0.1.length : Int)) <|
      chk (d5M (!(bif (!decide (((get s0.1 ((get ((get v1 s0.2.toNat).kids) 0).toNat)).base) = [])) then true else (!decide ((↑(((get s0.1 ((get ((get v1 s0.2.toNat).kids) 0).toNat)).args).length) : Int) = 2)))) (0 < (↑(((get s0.1 ((get ((get v1 s0.2.toNat).kids) 0).toNat)).args).length) : Int))) <|
      (gd (!(bif (!decide (((get s0.1 ((get ((get v1 s0.2.toNat).kids) 0).toNat)).base) = [])) then true else (!decide ((↑(((get s0.1 ((get ((get v1 s0.2.toNat).kids) 0).toNat)).args).length) : Int) = 2)))) (d1n n (get ((get s0.1 ((get ((get v1 s0.2.toNat).kids) 0).toNat)).args) 0) (get s0.1 ((get ((get v1 s0.2.toNat).kids) 1).toNat))) default).bind fun v90 =>
      bif (bif (bif (!decide (((get s0.1 ((get ((get v1 s0.2.toNat).kids) 0).toNat)).base) = [])) then true else (!decide ((↑(((get s0.1 ((get ((get v1 s0.2.toNat).kids) 0).toNat)).args).length) : Int) = 2))) then true else (!v90)) then
       some (.ret ((Ye.mk [] []), false))
      else
       chk (1 < (↑(((get s0.1 ((get ((get v1 s0.2.toNat).kids) 0).toNat)).args).length) : Int)) <|
       chk (s0.2 < (↑s0.1.length : Int)) <|
       d5A (s0.1.set s0.2.toNat (get ((get s0.1 ((get ((get v1 s0.2.toNat).kids) 0).toNat)).args) 1)) fun c95 =>
       some (.nxt (c95, (wr .i64 (s0.2 - 1))))
     else
      some (.nxt (s0.1, (wr .i64 (s0.2 - 1))))
 else
  some (.brk s0.1)
def d1S (t0 : (List Ye)) : Option (Ye × Bool) :=
 chk (0 < (↑t0.length : Int)) <|
 some ((get t0 0), true)
def d1N (n : Nat) (a0 : Yg) : Option (Ye × Bool) :=
 (p1n n a0).bind fun v1 =>
 chk (v1.length * 40 ≤ top ∧ v1.length ≤ top) <|
 YN (d2a (d0i n v1) n ((List.replicate v1.length (default : Ye)), (wr .i64 ((↑v1.length : Int) - 1)))) (d1S)
def d1l (s0 : (List Yi) × Int × Nat) (j5 : Int) (s6 : (List Yi) × Int × Nat) : Option (Ctl (Ctl (Yf) ((List Yi) × Int × Nat) (Unit)) ((List Yi) × Int × Nat) ((List Yi) × Nat)) :=
 bif (decide (0 ≤ s6.2.1)) then
  chk (0 ≤ s6.2.1 ∧ s6.2.1 < (↑(((get s0.1 ((wr .i64 ((↑s0.2.2 : Int) - 1)).toNat)).t.args).length) : Int)) <|
  chk (s6.2.2 ≤ s6.1.length) <|
  d5A ((s6.1.take s6.2.2) ++ [(Yi.mk (get ((get s0.1 ((wr .i64 ((↑s0.2.2 : Int) - 1)).toNat)).t.args) s6.2.1.toNat) (wr .i64 (((get s0.1 ((wr .i64 ((↑s0.2.2 : Int) - 1)).toNat)).depth) + 1)) j5)]) fun c57 =>
  chk (c57.length * 112 ≤ top ∧ c57.length ≤ top) <|
  some (.nxt (c57, (wr .i64 (s6.2.1 - 1)), c57.length))
 else
  some (.brk (s6.1, s6.2.2))
def d1m (s0 : (List Yi) × Int × Nat) (t6 : (List Yi) × Nat) : Option (Ctl (Yf) ((List Yi) × Int × Nat) (Unit)) :=
 some (.nxt (t6.1, (wr .i64 (s0.2.1 + 1)), t6.2))
def ZF (n : Nat) (s0 : (List Yi) × Int × Nat) (j5 : Int) : Option (Ctl (Yf) ((List Yi) × Int × Nat) (Unit)) :=
 YN (d2a (d1l s0 j5) n (s0.1, (wr .i64 ((↑(((get s0.1 ((wr .i64 ((↑s0.2.2 : Int) - 1)).toNat)).t.args).length) : Int) - 1)), (wr .i64 ((↑s0.2.2 : Int) - 1)).toNat)) (d1m s0)
def YL (n : Nat) (s0 : (List Yi) × Int × Nat) (j4 : Int) : Option (Ctl (Yf) ((List Yi) × Int × Nat) (Unit)) :=
 bif (!decide (j4 = 0)) then
  some (.ret (Yf.mk j4 s0.2.1))
 else
  bif (decide (((get s0.1 ((wr .i64 ((↑s0.2.2 : Int) - 1)).toNat)).t.kind) = 3)) then
   ZF n s0 (wr .i64 (((get s0.1 ((wr .i64 ((↑s0.2.2 : Int) - 1)).toNat)).bound) + 1))
  else
   ZF n s0 ((get s0.1 ((wr .i64 ((↑s0.2.2 : Int) - 1)).toNat)).bound)
def YH (n : Nat) (s0 : (List Yi) × Int × Nat) : Option (Ctl (Yf) ((List Yi) × Int × Nat) (Unit)) :=
 bif (decide (0 < (↑s0.2.2 : Int))) then
  chk (s0.2.2 ≤ s0.1.length) <|
  chk (0 ≤ (wr .i64 ((↑s0.2.2 : Int) - 1)) ∧ (wr .i64 ((↑s0.2.2 : Int) - 1)) < (↑s0.2.2 : Int)) <|
  chk ((wr .i64 ((↑s0.2.2 : Int) - 1)).toNat ≤ s0.2.2) <|
  bif (bif (decide (200 ≤ s0.2.1)) then true else (decide (40 < ((get s0.1 ((wr .i64 ((↑s0.2.2 : Int) - 1)).toNat)).depth)))) then
   YL n s0 1
  else
   bif (bif (decide (((get s0.1 ((wr .i64 ((↑s0.2.2 : Int) - 1)).toNat)).t.kind) < 1)) then true else (decide (4 < ((get s0.1 ((wr .i64 ((↑s0.2.2 : Int) - 1)).toNat)).t.kind)))) then
    YL n s0 4
   else
    chk (0 ≤ (get s0.1 ((wr .i64 ((↑s0.2.2 : Int) - 1)).toNat)).t.kind ∧ (get s0.1 ((wr .i64 ((↑s0.2.2 : Int) - 1)).toNat)).t.kind < 5) <|
    (gd ((bif (bif (decide ((↑(((get s0.1 ((wr .i64 ((↑s0.2.2 : Int) - 1)).toNat)).t.args).length) : Int) = (get [0, 0, 0, 1, 2] (((get s0.1 ((wr .i64 ((↑s0.2.2 : Int) - 1)).toNat)).t.kind).toNat)))) then (bif (decide (((get s0.1 ((wr .i64 ((↑s0.2.2 : Int) - 1)).toNat)).t.kind) = 1)) then true else (decide (((get s0.1 ((wr .i64 ((↑s0.2.2 : Int) - 1)).toNat)).t.name) = []))) else false) then (bif (decide (((get s0.1 ((wr .i64 ((↑s0.2.2 : Int) - 1)).toNat)).t.kind) = 2)) then true else (decide (((get s0.1 ((wr .i64 ((↑s0.2.2 : Int) - 1)).toNat)).t.index) = 0))) else false) && (!(bif (decide (((get s0.1 ((wr .i64 ((↑s0.2.2 : Int) - 1)).toNat)).t.kind) = 1)) then true else (decide (((get s0.1 ((wr .i64 ((↑s0.2.2 : Int) - 1)).toNat)).t.kind) = 3))))) (d1M ((get s0.1 ((wr .i64 ((↑s0.2.2 : Int) - 1)).toNat)).t.type)) default).bind fun v41 =>
    bif (!(bif (bif (bif (decide ((↑(((get s0.1 ((wr .i64 ((↑s0.2.2 : Int) - 1)).toNat)).t.args).length) : Int) = (get [0, 0, 0, 1, 2] (((get s0.1 ((wr .i64 ((↑s0.2.2 : Int) - 1)).toNat)).t.kind).toNat)))) then (bif (decide (((get s0.1 ((wr .i64 ((↑s0.2.2 : Int) - 1)).toNat)).t.kind) = 1)) then true else (decide (((get s0.1 ((wr .i64 ((↑s0.2.2 : Int) - 1)).toNat)).t.name) = []))) else false) then (bif (decide (((get s0.1 ((wr .i64 ((↑s0.2.2 : Int) - 1)).toNat)).t.kind) = 2)) then true else (decide (((get s0.1 ((wr .i64 ((↑s0.2.2 : Int) - 1)).toNat)).t.index) = 0))) else false) then (bif (bif (decide (((get s0.1 ((wr .i64 ((↑s0.2.2 : Int) - 1)).toNat)).t.kind) = 1)) then true else (decide (((get s0.1 ((wr .i64 ((↑s0.2.2 : Int) - 1)).toNat)).t.kind) = 3))) then true else v41) else false)) then
     YL n s0 5
    else
     (gd (decide (((get s0.1 ((wr .i64 ((↑s0.2.2 : Int) - 1)).toNat)).t.kind) = 1)) (d2r n ((get s0.1 ((wr .i64 ((↑s0.2.2 : Int) - 1)).toNat)).t.name)) default).bind fun v42 =>
     bif (bif (decide (((get s0.1 ((wr .i64 ((↑s0.2.2 : Int) - 1)).toNat)).t.kind) = 1)) then (!v42) else false) then
      YL n s0 10
     else
      (gd (bif (decide (((get s0.1 ((wr .i64 ((↑s0.2.2 : Int) - 1)).toNat)).t.kind) = 1)) then true else (decide (((get s0.1 ((wr .i64 ((↑s0.2.2 : Int) - 1)).toNat)).t.kind) = 3))) (d0q n ((get s0.1 ((wr .i64 ((↑s0.2.2 : Int) - 1)).toNat)).t.type)) default).bind fun v43 =>
      bif (bif (bif (decide (((get s0.1 ((wr .i64 ((↑s0.2.2 : Int) - 1)).toNat)).t.kind) = 1)) then true else (decide (((get s0.1 ((wr .i64 ((↑s0.2.2 : Int) - 1)).toNat)).t.kind) = 3))) then (!decide (v43 = 0)) else false) then
       YL n s0 12
      else
       bif (bif (decide (((get s0.1 ((wr .i64 ((↑s0.2.2 : Int) - 1)).toNat)).t.kind) = 2)) then (bif (decide (((get s0.1 ((wr .i64 ((↑s0.2.2 : Int) - 1)).toNat)).t.index) < 0)) then true else (decide (((get s0.1 ((wr .i64 ((↑s0.2.2 : Int) - 1)).toNat)).bound) ≤ ((get s0.1 ((wr .i64 ((↑s0.2.2 : Int) - 1)).toNat)).t.index)))) else false) then
        YL n s0 15
       else
        YL n s0 0
 else
  some (.brk ())
def d1o (n : Nat) (a0 : Yg) (t0 : Unit) : Option (Yf) :=
 (d1N n a0).bind fun v62 =>
 bif (!v62.2) then
  some (Yf.mk 12 (-1))
 else
  some (Yf.mk 0 0)
def d0Q (n : Nat) (a0 : Yg) : Option (Yf) :=
 YN (d2a (YH n) n ([(Yi.mk a0 1 0)], 0, 1)) (d1o n a0)
def ZH (n : Nat) (a0 : Yg) : Option (Yf) :=
 (d0Q n a0).bind fun v1 =>
 some v1
def Zv (a1 : Yh) (k0 : Nat) (s0 : Unit) : Option (Ctl (Int) (Unit) (Unit)) :=
 (d1L a1.graph 0 (↑k0 : Int)).bind fun v2 =>
 bif (!decide ((decide (0 ≤ v2)) = (decide ((↑k0 : Int) ≤ a1.kids)))) then
  some (.ret 5)
 else
  some (.nxt ())
def d1p (n : Nat) (a1 : Yh) (t0 : Unit) : Option (Int) :=
 (ZH n a1.meaning).bind fun v3 =>
 some v3.code
def d0R (n : Nat) (a0 : Ym) (a1 : Yh) : Option (Int) :=
 bif (bif (bif (bif (decide (a1.kids < 1)) then true else (decide (3 < a1.kids))) then true else (decide (a1.weight < 0))) then true else (decide (1000000 < a1.weight))) then
  some 3
 else
  (Zx n a0 a1.graph).bind fun v1 =>
  bif (!decide (v1.code = 0)) then
   some v1.code
  else
   YN (Zi (Zv a1) 4 ()) (d1p n a1)
def YW (j0 : Int × Int × Int) (a0 : Bs) (s1 : Int × Int) : Option (Ctl (Int) (Int × Int) (Int)) :=
 bif (decide (s1.2 < j0.1)) then
  chk (0 ≤ s1.2 ∧ s1.2 < (↑a0.length : Int)) <|
  bif (bif (decide ((Yu a0 s1.2) < 128)) then true else (decide (191 < (Yu a0 s1.2)))) then
   some (.ret 0)
  else
   some (.nxt ((wr .i64 ((wr .i64 ((wr .i64 (64 * s1.1)) + (wr .i64 (Yu a0 s1.2)))) - 128)), (wr .i64 (s1.2 + 1))))
 else
  some (.brk s1.1)
def d0Z (j0 : Int × Int × Int) (t1 : Int) : Option (Int) :=
 bif (bif (bif (decide (t1 < j0.2.1)) then true else (decide (1114111 < t1))) then true else (bif (decide (55296 ≤ t1)) then (decide (t1 ≤ 57343)) else false)) then
  some 0
 else
  some j0.1
def Ze (n : Nat) (a0 : Bs) (j0 : Int × Int × Int) : Option (Int) :=
 bif (decide ((↑a0.length : Int) < j0.1)) then
  some 0
 else
  YN (d2a (YW j0 a0) n (j0.2.2, 1)) (d0Z j0)
def d0C (n : Nat) (a0 : Bs) : Option (Int) :=
 chk (0 < (↑a0.length : Int)) <|
 bif (decide ((Yu a0 0) < 128)) then
  some 1
 else
  bif (bif (decide (194 ≤ (Yu a0 0))) then (decide ((Yu a0 0) ≤ 223)) else false) then
   Ze n a0 (2, 128, (wr .i64 ((wr .i64 (Yu a0 0)) - 192)))
  else
   bif (bif (decide (224 ≤ (Yu a0 0))) then (decide ((Yu a0 0) ≤ 239)) else false) then
    Ze n a0 (3, 2048, (wr .i64 ((wr .i64 (Yu a0 0)) - 224)))
   else
    bif (bif (decide (240 ≤ (Yu a0 0))) then (decide ((Yu a0 0) ≤ 244)) else false) then
     Ze n a0 (4, 65536, (wr .i64 ((wr .i64 (Yu a0 0)) - 240)))
    else
     some 0
def d2D (a0 : Bs) (s0 : Nat × Int) : Option (Ctl (Bool) (Nat × Int) (Int)) :=
 bif (decide (s0.1 < a0.length)) then
  chk (s0.1 < a0.length) <|
  bif (bif (bif (bif (bif (bif (bif (bif (bif (decide ((rune a0 s0.1) = 32)) then true else (decide ((rune a0 s0.1) = 9))) then true else (decide ((rune a0 s0.1) = 10))) then true else (decide ((rune a0 s0.1) = 40))) then true else (decide ((rune a0 s0.1) = 41))) then true else (decide ((rune a0 s0.1) = 91))) then true else (decide ((rune a0 s0.1) = 93))) then true else (decide ((rune a0 s0.1) = 44))) then true else (decide ((rune a0 s0.1) = 59))) then
   some (.ret false)
  else
   some (.nxt ((s0.1 + d5Y a0 s0.1), (wr .i64 (s0.2 + 1))))
 else
  some (.brk s0.2)
def d2F (n : Nat) (a0 : Bs) (s1 : Int) : Option (Ctl (Bool) (Int) (Unit)) :=
 bif (decide (s1 < (↑a0.length : Int))) then
  chk (0 ≤ s1 ∧ s1.toNat ≤ a0.length) <|
  (d0C n (a0.drop s1.toNat)).bind fun v8 =>
  bif (decide (v8 = 0)) then
   some (.ret false)
  else
   some (.nxt (wr .i64 (s1 + v8)))
 else
  some (.brk ())
def d3U (t1 : Unit) : Option (Bool) :=
 some true
def d2E (n : Nat) (a0 : Bs) (t0 : Int) : Option (Bool) :=
 bif (bif (decide (t0 < 1)) then true else (decide (30 < t0))) then
  some false
 else
  YN (d2a (d2F n a0) n 0) (d3U)
def d2u (n : Nat) (a0 : Bs) : Option (Bool) :=
 YN (d2a (d2D a0) n (0, 0)) (d2E n a0)
def d1q (n : Nat) (a0 : Ym) (a1 : YR) : Option (Int) :=
 (d2u n a1.word).bind fun v1 =>
 bif (!v1) then
  some 10
 else
  bif (bif (decide (a1.weight < 0)) then true else (decide (1000000 < a1.weight))) then
   some 3
  else
   (Zx n a0 a1.graph).bind fun v2 =>
   bif (!decide (v2.code = 0)) then
    some v2.code
   else
    (ZH n a1.meaning).bind fun v3 =>
    some v3.code
def ZN (a0 : Yq) (k0 : Nat) (k1 : Nat) (s1 : Unit) : Option (Ctl (Ctl (Yf) (Unit) (Unit)) (Unit) (Unit)) :=
 bif (decide (((get (a0.rules.take k0) k1).name) = ((get a0.rules k0).name))) then
  some (.ret (.ret (Yf.mk 7 (↑k0 : Int))))
 else
  some (.nxt ())
def d0t (n : Nat) (a0 : Yq) (k0 : Nat) (t1 : Unit) : Option (Ctl (Yf) (Unit) (Unit)) :=
 (d0R n a0.hierarchy (get a0.rules k0)).bind fun v5 =>
 bif (!decide (v5 = 0)) then
  some (.ret (Yf.mk v5 (↑k0 : Int)))
 else
  some (.nxt ())
def d0s (n : Nat) (a0 : Yq) (k0 : Nat) (s0 : Unit) : Option (Ctl (Yf) (Unit) (Unit)) :=
 (d0O ((get a0.rules k0).name)).bind fun v2 =>
 bif (!v2) then
  some (.ret (Yf.mk 10 (↑k0 : Int)))
 else
  chk (0 ≤ (↑k0 : Int) ∧ k0 ≤ a0.rules.length) <|
  YN (Zi (ZN a0 k0) ((a0.rules.take k0).length) ()) (d0t n a0 k0)
def d0v (n : Nat) (a0 : Yq) (k2 : Nat) (s2 : Unit) : Option (Ctl (Yf) (Unit) (Unit)) :=
 (d1q n a0.hierarchy (get a0.YK k2)).bind fun v6 =>
 bif (!decide (v6 = 0)) then
  some (.ret (Yf.mk v6 (↑k2 : Int)))
 else
  some (.nxt ())
def d0w (n : Nat) (a0 : Yq) (t2 : Unit) : Option (Yf) :=
 (Zx n a0.hierarchy a0.start).bind fun v7 =>
 bif (!decide (v7.code = 0)) then
  some (Yf.mk v7.code (-1))
 else
  some (Yf.mk 0 0)
def d0u (n : Nat) (a0 : Yq) (t0 : Unit) : Option (Yf) :=
 YN (Zi (d0v n a0) a0.YK.length ()) (d0w n a0)
def d0l (n : Nat) (a0 : Yq) : Option (Yf) :=
 (ZR n a0.hierarchy).bind fun v1 =>
 bif (!decide (v1.code = 0)) then
  some v1
 else
  bif (decide ((↑a0.hierarchy.YI.length : Int) ≤ 3)) then
   some (Yf.mk 9 (-1))
  else
   bif (bif (decide (40 < (↑a0.rules.length : Int))) then true else (decide (100 < (↑a0.YK.length : Int)))) then
    some (Yf.mk 2 (-1))
   else
    YN (Zi (d0s n a0) a0.rules.length ()) (d0u n a0)
def d3q (a0 : Int) (a1 : Int) : Option (Yf) :=
 some (Yf.mk a0 a1)
def d1C (a0 : Int) (a1 : Int) : Option (Yf) :=
 some (Yf.mk a0 a1)
def d4N (self : (Yl) → (Int) → (Int) → (Int) → ((List Yj)) → ((List Yt)) → ((List Yh)) → ((List YR)) → ((List Yo)) → (Int) → Option (Yf × Int × Int)) (a0 : Yl) (a1 : Int) (j1 : Int) (d4C : (List Yj)) (i3J : (List Yt)) (i2g : (List Yh)) (i2C : (List YR)) (i3K : (List Yo)) (k2 : Nat) (s2 : Int × Int) : Option (Ctl (Yf × Int × Int) (Int × Int) (Int × Int)) :=
 (self (get a0.kids k2) (wr .i64 (a1 + 1)) j1 s2.1 d4C i3J i2g i2C i3K s2.2).bind fun v9 =>
 bif (!decide (v9.1.code = 0)) then
  some (.ret (v9.1, v9.2.1, v9.2.2))
 else
  some (.nxt (v9.2.1, v9.2.2))
def d5T (t2 : Int × Int) : Option (Yf × Int × Int) :=
 some ((Yf.mk 0 0), t2.1, t2.2)
def d3b (self : (Yl) → (Int) → (Int) → (Int) → ((List Yj)) → ((List Yt)) → ((List Yh)) → ((List YR)) → ((List Yo)) → (Int) → Option (Yf × Int × Int)) (d0a : Int) (j0 : Int × Int) (a0 : Yl) (a1 : Int) (d4C : (List Yj)) (i3J : (List Yt)) (i2g : (List Yh)) (i2C : (List YR)) (i3K : (List Yo)) (j1 : Int) : Option (Yf × Int × Int) :=
 bif (decide (3 < j1)) then
  (d1C 14 d0a).bind fun v7 =>
  some (v7, (wr .i64 (d0a + 1)), j0.1)
 else
  YN (Zi (d4N self a0 a1 j1 d4C i3J i2g i2C i3K) a0.kids.length ((wr .i64 (d0a + 1)), j0.1)) (d5T)
def d3O (self : (Yl) → (Int) → (Int) → (Int) → ((List Yj)) → ((List Yt)) → ((List Yh)) → ((List YR)) → ((List Yo)) → (Int) → Option (Yf × Int × Int)) (a0 : Yl) (d0a : Int) (a1 : Int) (d4C : (List Yj)) (i3J : (List Yt)) (i2g : (List Yh)) (i2C : (List YR)) (i3K : (List Yo)) (a2 : Int) (j0 : Int × Int) : Option (Yf × Int × Int) :=
 bif (!decide ((↑a0.kids.length : Int) = j0.2)) then
  (d1C 9 d0a).bind fun v6 =>
  some (v6, (wr .i64 (d0a + 1)), j0.1)
 else
  bif (!decide (j0.2 = 1)) then
   d3b self d0a j0 a0 a1 d4C i3J i2g i2C i3K 0
  else
   d3b self d0a j0 a0 a1 d4C i3J i2g i2C i3K (wr .i64 (a2 + 1))
def d1B : Nat → (Yl) → (Int) → (Int) → (Int) → ((List Yj)) → ((List Yt)) → ((List Yh)) → ((List YR)) → ((List Yo)) → (Int) → Option (Yf × Int × Int)
 | 0, _, _, _, _, _, _, _, _, _, _ => none
 | n + 1, a0, a1, a2, d0a, d4C, i3J, i2g, i2C, i3K, i2D =>
  bif (bif (decide (200 < (wr .i64 (d0a + 1)))) then true else (decide (48 < a1))) then
   (d1C 1 d0a).bind fun v1 =>
   some (v1, (wr .i64 (d0a + 1)), i2D)
  else
   bif (bif (bif (decide (a0.rule < (-1))) then true else (decide ((↑i2g.length : Int) ≤ a0.rule))) then true else (bif (decide (a0.rule = (-1))) then (bif (decide (a0.lex < 0)) then true else (decide ((↑i2C.length : Int) ≤ a0.lex))) else false)) then
    (d1C 3 d0a).bind fun v2 =>
    some (v2, (wr .i64 (d0a + 1)), i2D)
   else
    bif (bif (decide (0 ≤ a0.rule)) then (!decide (a0.lex = 0)) else false) then
     (d1C 5 d0a).bind fun v3 =>
     some (v3, (wr .i64 (d0a + 1)), i2D)
    else
     bif (decide (0 ≤ a0.rule)) then
      chk (0 ≤ a0.rule ∧ a0.rule < (↑i2g.length : Int)) <|
      d3O (d1B n) a0 d0a a1 d4C i3J i2g i2C i3K a2 (i2D, (get i2g a0.rule.toNat).kids)
     else
      d3O (d1B n) a0 d0a a1 d4C i3J i2g i2C i3K a2 ((wr .i64 (i2D + 1)), 0)
def d5J (n : Nat) (a0 : Yq) (a1 : Yl) : Option (Yf) :=
 (d1B n a1 1 0 0 a0.hierarchy.types a0.hierarchy.YI a0.rules a0.YK a0.start.nodes 0).bind fun v1 =>
 bif (!decide (v1.1.code = 0)) then
  some v1.1
 else
  bif (decide (12 < v1.2.2)) then
   (d1C 2 (-2)).bind fun v2 =>
   some v2
  else
   some (Yf.mk 0 0)
def d5U (self : (Yl) → ((List Int)) → ((List Int)) → Option ((List Int) × (List Int))) (a0 : Yl) (k1 : Nat) (s1 : (List Int) × (List Int)) : Option (Ctl ((List Int) × (List Int)) ((List Int) × (List Int)) ((List Int) × (List Int))) :=
 (self (get a0.kids k1) s1.1 s1.2).bind fun v20 =>
 some (.nxt (v20.1, v20.2))
def d7N (t1 : (List Int) × (List Int)) : Option ((List Int) × (List Int)) :=
 some (t1.1, t1.2)
def d3P (self : (Yl) → ((List Int)) → ((List Int)) → Option ((List Int) × (List Int))) (a0 : Yl) (j0 : (List Int) × (List Int)) : Option ((List Int) × (List Int)) :=
 YN (Zi (d5U self a0) a0.kids.length (j0.1, j0.2)) (d7N)
def d2w : Nat → (Yl) → ((List Int)) → ((List Int)) → Option ((List Int) × (List Int))
 | 0, _, _, _ => none
 | n + 1, a0, l1, l2 =>
  bif (decide (a0.rule < 0)) then
   chk (0 ≤ a0.lex ∧ a0.lex < (↑l2.length : Int)) <|
   d5A (l2.set a0.lex.toNat (wr .i64 ((get l2 a0.lex.toNat) + 1))) fun c7 =>
   d3P (d2w n) a0 (l1, c7)
  else
   chk (0 ≤ a0.rule ∧ a0.rule < (↑l1.length : Int)) <|
   d5A (l1.set a0.rule.toNat (wr .i64 ((get l1 a0.rule.toNat) + 1))) fun c16 =>
   d3P (d2w n) a0 (c16, l2)
def d8z (n : Nat) (a0 : Yq) (l0 : (List Yl)) (k0 : Nat) (s0 : (List Int) × (List Int)) : Option (Ctl (YS × Yf) ((List Int) × (List Int)) ((List Int) × (List Int))) :=
 (d5J n a0 (get l0 k0)).bind fun v17 =>
 bif (!decide (v17.code = 0)) then
  (d3q v17.code (↑k0 : Int)).bind fun v18 =>
  some (.ret ((YS.mk [] []), v18))
 else
  (d2w n (get l0 k0) s0.1 s0.2).bind fun v19 =>
  some (.nxt (v19.1, v19.2))
def d8A (t0 : (List Int) × (List Int)) : Option (YS × Yf) :=
 some ((YS.mk t0.1 t0.2), (Yf.mk 0 0))
def i1P (n : Nat) (a0 : Yq) (l0 : (List Yl)) : Option (YS × Yf) :=
 (d2v n a0).bind fun v1 =>
 bif (!decide (v1.code = 0)) then
  some ((YS.mk [] []), v1)
 else
  bif (decide (200 < (↑l0.length : Int))) then
   (d3q 2 (-2)).bind fun v2 =>
   some ((YS.mk [] []), v2)
  else
   chk (a0.rules.length * 8 ≤ top ∧ a0.rules.length ≤ top) <|
   chk (a0.YK.length * 8 ≤ top ∧ a0.YK.length ≤ top) <|
   chk (l0.length ≤ 9223372036854775807) <|
   YN (Zi (d8z n a0 l0) l0.length ((List.replicate a0.rules.length (default : Int)), (List.replicate a0.YK.length (default : Int)))) (d8A)
def d8B (a1 : YS) (k0 : Nat) (s0 : Unit) : Option (Ctl (Yf) (Unit) (Unit)) :=
 bif (bif (decide ((get a1.rules k0) < 0)) then true else (decide (1000000 < (get a1.rules k0)))) then
  (d3q 3 (↑k0 : Int)).bind fun v4 =>
  some (.ret v4)
 else
  some (.nxt ())
def d8C (a1 : YS) (k1 : Nat) (s1 : Unit) : Option (Ctl (Yf) (Unit) (Unit)) :=
 bif (bif (decide ((get a1.YK k1) < 0)) then true else (decide (1000000 < (get a1.YK k1)))) then
  (d3q 3 (wr .i64 ((↑a1.rules.length : Int) + (↑k1 : Int)))).bind fun v6 =>
  some (.ret v6)
 else
  some (.nxt ())
def d8D (t1 : Unit) : Option (Yf) :=
 some (Yf.mk 0 0)
def d8E (a1 : YS) (t0 : Unit) : Option (Yf) :=
 YN (Zi (d8C a1) a1.YK.length ()) (d8D)
def i1Q (n : Nat) (a0 : Yq) (a1 : YS) : Option (Yf) :=
 (d2v n a0).bind fun v1 =>
 bif (!decide (v1.code = 0)) then
  some v1
 else
  bif (bif (!decide ((↑a1.rules.length : Int) = (↑a0.rules.length : Int))) then true else (!decide ((↑a1.YK.length : Int) = (↑a0.YK.length : Int)))) then
   (d3q 9 (-2)).bind fun v2 =>
   some v2
  else
   YN (Zi (d8B a1) a1.rules.length ()) (d8E a1)
def d8F (a0 : Int) : Option (Int) :=
 bif (decide (a0 < 0)) then
  some (wr .u64 ((wr .u64 (wr .i64 (0 - (wr .i64 (a0 + 1))))) + 1))
 else
  some (wr .u64 a0)
def i1R (s0 : Int × Int) : Option (Ctl (Int) (Int × Int) (Int)) :=
 bif (!decide (s0.2 = 0)) then
  chk (s0.2 ≠ 0) <|
  some (.nxt (s0.2, (Int.tmod s0.1 s0.2)))
 else
  some (.brk s0.1)
def i1S (t0 : Int) : Option (Int) :=
 some t0
def i1T (n : Nat) (a0 : Int) (a1 : Int) : Option (Int) :=
 YN (d2a (i1R) n (a0, a1)) (i1S)
def i8T (a0 : Bool) (a1 : Int) (a2 : Int) : Option (Yz × Yf) :=
 bif (bif (decide (1152921504606846976 < a1)) then true else (decide (1152921504606846976 < a2))) then
  some ((Yz.mk 0 0), (Yf.mk 18 0))
 else
  bif a0 then
   some ((Yz.mk (wr .i64 (0 - (wr .i64 a1))) (wr .i64 a2)), (Yf.mk 0 0))
  else
   some ((Yz.mk (wr .i64 a1) (wr .i64 a2)), (Yf.mk 0 0))
def i5L (n : Nat) (a0 : Int) (a1 : Int) : Option (Yz × Yf) :=
 bif (decide (a1 = 0)) then
  some ((Yz.mk 0 0), (Yf.mk 19 (-2)))
 else
  (d8F a0).bind fun v1 =>
  (d8F a1).bind fun v2 =>
  (i1T n v1 v2).bind fun v3 =>
  chk (v3 ≠ 0 ∧ InK .u64 (Int.tdiv v1 v3)) <|
  chk (InK .u64 (Int.tdiv v2 v3)) <|
  (i8T (!decide ((decide (a0 < 0)) = (decide (a1 < 0)))) (Int.tdiv v1 v3) (Int.tdiv v2 v3)).bind fun v7 =>
  some (v7.1, v7.2)
def d6p (n : Nat) (l0 : (List Int)) (l2 : (List Int)) (a1 : (List Int)) (k0 : Nat) (s0 : (List Yz)) : Option (Ctl ((List Yz)) ((List Yz)) ((List Yz))) :=
 chk (0 ≤ (get l0 k0) ∧ (get l0 k0) < (↑l2.length : Int)) <|
 bif (decide (0 < (get l2 ((get l0 k0).toNat)))) then
  chk ((↑k0 : Int) < (↑a1.length : Int)) <|
  (i5L n (get a1 k0) (get l2 ((get l0 k0).toNat))).bind fun v33 =>
  d5A (s0 ++ [v33.1]) fun c35 =>
  chk (c35.length * 16 ≤ top ∧ c35.length ≤ top) <|
  some (.nxt c35)
 else
  d5A (s0 ++ [(Yz.mk 0 1)]) fun c41 =>
  chk (c41.length * 16 ≤ top ∧ c41.length ≤ top) <|
  some (.nxt c41)
def d6q (t0 : (List Yz)) : Option ((List Yz)) :=
 some t0
def d6D (n : Nat) (a1 : (List Int)) (l0 : (List Int)) (l2 : (List Int)) : Option ((List Yz)) :=
 chk (l0.length ≤ 9223372036854775807) <|
 YN (Zi (d6p n l0 l2 a1) l0.length []) (d6q)
def d7d (n : Nat) (a0 : Yq) (a1 : YS) (k0 : Nat) (s0 : (List Int) × (List Int)) : Option (Ctl ((List Yz) × (List Yz)) ((List Int) × (List Int)) ((List Int) × (List Int))) :=
 (d5I n ((get a0.rules k0).graph) 0 0).bind fun v23 =>
 chk (0 ≤ v23 ∧ v23 < (↑(((get a0.rules k0).graph.nodes).length) : Int)) <|
 d5A (s0.2 ++ [(get ((get a0.rules k0).graph.nodes) v23.toNat).type]) fun c27 =>
 chk (c27.length * 8 ≤ top ∧ c27.length ≤ top) <|
 chk (0 ≤ (get ((get a0.rules k0).graph.nodes) v23.toNat).type ∧ (get ((get a0.rules k0).graph.nodes) v23.toNat).type < (↑s0.1.length : Int)) <|
 chk ((↑k0 : Int) < (↑a1.rules.length : Int)) <|
 d5A (s0.1.set (((get ((get a0.rules k0).graph.nodes) v23.toNat).type).toNat) (wr .i64 ((get s0.1 (((get ((get a0.rules k0).graph.nodes) v23.toNat).type).toNat)) + (get a1.rules k0)))) fun c39 =>
 some (.nxt (c39, c27))
def d7e (a0 : Yq) (a1 : YS) (k1 : Nat) (s1 : (List Int) × (List Int)) : Option (Ctl ((List Yz) × (List Yz)) ((List Int) × (List Int)) ((List Int) × (List Int))) :=
 chk (0 < (↑(((get a0.YK k1).graph.nodes).length) : Int)) <|
 d5A (s1.2 ++ [(get ((get a0.YK k1).graph.nodes) 0).type]) fun c61 =>
 chk (c61.length * 8 ≤ top ∧ c61.length ≤ top) <|
 chk (0 ≤ (get ((get a0.YK k1).graph.nodes) 0).type ∧ (get ((get a0.YK k1).graph.nodes) 0).type < (↑s1.1.length : Int)) <|
 chk ((↑k1 : Int) < (↑a1.YK.length : Int)) <|
 d5A (s1.1.set (((get ((get a0.YK k1).graph.nodes) 0).type).toNat) (wr .i64 ((get s1.1 (((get ((get a0.YK k1).graph.nodes) 0).type).toNat)) + (get a1.YK k1)))) fun c73 =>
 some (.nxt (c73, c61))
def d7f (n : Nat) (a1 : YS) (t0 : (List Int) × (List Int)) (t1 : (List Int) × (List Int)) : Option ((List Yz) × (List Yz)) :=
 (d6D n a1.rules t0.2 t1.1).bind fun v76 =>
 (d6D n a1.YK t1.2 t1.1).bind fun v77 =>
 some (v76, v77)
def d7g (n : Nat) (a0 : Yq) (a1 : YS) (t0 : (List Int) × (List Int)) : Option ((List Yz) × (List Yz)) :=
 YN (Zi (d7e a0 a1) a0.YK.length (t0.1, [])) (d7f n a1 t0)
def d9r (n : Nat) (a0 : Yq) (a1 : YS) : Option ((List Yz) × (List Yz)) :=
 chk (a0.hierarchy.types.length * 8 ≤ top ∧ a0.hierarchy.types.length ≤ top) <|
 YN (Zi (d7d n a0 a1) a0.rules.length ((List.replicate a0.hierarchy.types.length (default : Int)), [])) (d7g n a0 a1)
def i1e (n : Nat) (a0 : Yz) (a1 : Int) : Option (Yf) :=
 bif (bif (bif (bif (decide (a0.num < (-1152921504606846976))) then true else (decide (1152921504606846976 < a0.num))) then true else (decide (a0.den < 1))) then true else (decide (1152921504606846976 < a0.den))) then
  some (Yf.mk 3 a1)
 else
  (d8F a0.num).bind fun v1 =>
  (i1T n v1 (wr .u64 a0.den)).bind fun v2 =>
  bif (!decide (v2 = 1)) then
   some (Yf.mk 5 a1)
  else
   some (Yf.mk 0 0)
def i5M (n : Nat) (a0 : Yz) (a1 : Yz) : Option (Yf) :=
 (i1e n a0 (-1)).bind fun v1 =>
 bif (!decide (v1.code = 0)) then
  some v1
 else
  (i1e n a1 (-2)).bind fun v2 =>
  some v2
def d8G (a0 : Int) (a1 : Int) : Option (Int × Int) :=
 some ((wr .u64 ((wr .u64 ((wr .u64 ((Int.fdiv a0 (2 ^ (min 32 64))) * (Int.fdiv a1 (2 ^ (min 32 64))))) + (Int.fdiv (wr .u64 ((wr .u64 ((Int.fdiv a0 (2 ^ (min 32 64))) * (d1t .and .u64 a1 4294967295))) + (Int.fdiv (wr .u64 ((d1t .and .u64 a0 4294967295) * (d1t .and .u64 a1 4294967295))) (2 ^ (min 32 64))))) (2 ^ (min 32 64))))) + (Int.fdiv (wr .u64 ((d1t .and .u64 (wr .u64 ((wr .u64 ((Int.fdiv a0 (2 ^ (min 32 64))) * (d1t .and .u64 a1 4294967295))) + (Int.fdiv (wr .u64 ((d1t .and .u64 a0 4294967295) * (d1t .and .u64 a1 4294967295))) (2 ^ (min 32 64))))) 4294967295) + (wr .u64 ((d1t .and .u64 a0 4294967295) * (Int.fdiv a1 (2 ^ (min 32 64))))))) (2 ^ (min 32 64))))), (wr .u64 (a0 * a1)))
def d8H (a0 : Int) (a1 : Int) : Option (Int × Bool) :=
 (d8G a0 a1).bind fun v1 =>
 some (v1.2, (bif (decide (v1.1 = 0)) then (decide (v1.2 ≤ 1152921504606846976)) else false))
def i3L (n : Nat) (a0 : Yz) (a1 : Yz) : Option (Yz × Yf) :=
 (d8F a0.num).bind fun v1 =>
 (d8F a1.num).bind fun v2 =>
 (i1T n v1 (wr .u64 a1.den)).bind fun v3 =>
 (i1T n v2 (wr .u64 a0.den)).bind fun v4 =>
 chk (v3 ≠ 0 ∧ InK .u64 (Int.tdiv v1 v3)) <|
 chk (v4 ≠ 0 ∧ InK .u64 (Int.tdiv v2 v4)) <|
 (d8H (Int.tdiv v1 v3) (Int.tdiv v2 v4)).bind fun v9 =>
 chk (InK .u64 (Int.tdiv (wr .u64 a0.den) v4)) <|
 chk (InK .u64 (Int.tdiv (wr .u64 a1.den) v3)) <|
 (d8H (Int.tdiv (wr .u64 a0.den) v4) (Int.tdiv (wr .u64 a1.den) v3)).bind fun v12 =>
 bif (bif (!v9.2) then true else (!v12.2)) then
  some ((Yz.mk 0 0), (Yf.mk 18 0))
 else
  (i8T (bif (!decide ((decide (a0.num < 0)) = (decide (a1.num < 0)))) then (decide (0 < v9.1)) else false) v9.1 v12.1).bind fun v13 =>
  some (v13.1, v13.2)
def i8c (n : Nat) (a0 : Yz) (a1 : Yz) : Option (Yz × Yf) :=
 (i5M n a0 a1).bind fun v1 =>
 bif (!decide (v1.code = 0)) then
  some ((Yz.mk 0 0), v1)
 else
  (i3L n a0 a1).bind fun v2 =>
  some (v2.1, v2.2)
def d4G (self : (Yl) → ((List Yz)) → ((List Yz)) → (Int) → (Int) → Option (Bool × Int × Int)) (a0 : Yl) (d0a : (List Yz)) (d4C : (List Yz)) (k1 : Nat) (s1 : Int × Int) : Option (Ctl (Bool × Int × Int) (Int × Int) (Int × Int)) :=
 (self (get a0.kids k1) d0a d4C s1.1 s1.2).bind fun v7 =>
 bif (!v7.1) then
  some (.ret (false, v7.2.1, v7.2.2))
 else
  some (.nxt (v7.2.1, v7.2.2))
def d4H (t1 : Int × Int) : Option (Bool × Int × Int) :=
 some (true, t1.1, t1.2)
def d3j (self : (Yl) → ((List Yz)) → ((List Yz)) → (Int) → (Int) → Option (Bool × Int × Int)) (n : Nat) (i2D : Int) (i9N : Int) (a0 : Yl) (d0a : (List Yz)) (d4C : (List Yz)) (j0 : Int × Int) : Option (Bool × Int × Int) :=
 (i8c n (Yz.mk i2D i9N) (Yz.mk j0.1 j0.2)).bind fun v5 =>
 bif (!decide (v5.2.code = 0)) then
  some (false, v5.1.num, v5.1.den)
 else
  YN (Zi (d4G self a0 d0a d4C) a0.kids.length (v5.1.num, v5.1.den)) (d4H)
def d1E : Nat → (Yl) → ((List Yz)) → ((List Yz)) → (Int) → (Int) → Option (Bool × Int × Int)
 | 0, _, _, _, _, _ => none
 | n + 1, a0, d0a, d4C, i2D, i9N =>
  bif (decide (a0.rule < 0)) then
   chk (0 ≤ a0.lex ∧ a0.lex < (↑d0a.length : Int)) <|
   d3j (d1E n) n i2D i9N a0 d0a d4C ((get d0a a0.lex.toNat).num, (get d0a a0.lex.toNat).den)
  else
   chk (0 ≤ a0.rule ∧ a0.rule < (↑d4C.length : Int)) <|
   d3j (d1E n) n i2D i9N a0 d0a d4C ((get d4C a0.rule.toNat).num, (get d4C a0.rule.toNat).den)
def d5w (n : Nat) (a0 : (List Yz)) (a1 : (List Yz)) (a2 : Yl) : Option (Yz × Bool) :=
 (d1E n a2 a1 a0 1 1).bind fun v1 =>
 bif (!v1.1) then
  some ((Yz.mk 0 0), false)
 else
  some ((Yz.mk v1.2.1 v1.2.2), true)
def d6r (n : Nat) (a0 : Yq) (a1 : YS) (a2 : Yl) : Option (Yz × Yf) :=
 (i1Q n a0 a1).bind fun v1 =>
 bif (!decide (v1.code = 0)) then
  some ((Yz.mk 0 0), v1)
 else
  (d5J n a0 a2).bind fun v2 =>
  bif (!decide (v2.code = 0)) then
   some ((Yz.mk 0 0), v2)
  else
   (d9r n a0 a1).bind fun v3 =>
   (d5w n v3.1 v3.2 a2).bind fun v4 =>
   bif (!v4.2) then
    (d3q 18 0).bind fun v5 =>
    some ((Yz.mk 0 0), v5)
   else
    some (v4.1, (Yf.mk 0 0))
def d0F (n : Nat) : Option (Bool) :=
 (d4o n).bind fun v1 =>
 (i1P n v1 [(Yl.mk 0 0 [(Yl.mk (-1) 19 []), (Yl.mk 2 0 [(Yl.mk (-1) 9 [])])])]).bind fun v5 =>
 chk (d5M (!(bif (bif (!decide (v5.2.code = 0)) then true else (!decide ((↑v5.1.rules.length : Int) = 6))) then true else (!decide ((↑v5.1.YK.length : Int) = 21)))) (0 < (↑v5.1.rules.length : Int))) <|
 chk (d5M (!(bif (bif (bif (!decide (v5.2.code = 0)) then true else (!decide ((↑v5.1.rules.length : Int) = 6))) then true else (!decide ((↑v5.1.YK.length : Int) = 21))) then true else (!decide ((get v5.1.rules 0) = 1)))) (19 < (↑v5.1.YK.length : Int))) <|
 chk (d5M (!(bif (bif (bif (bif (!decide (v5.2.code = 0)) then true else (!decide ((↑v5.1.rules.length : Int) = 6))) then true else (!decide ((↑v5.1.YK.length : Int) = 21))) then true else (!decide ((get v5.1.rules 0) = 1))) then true else (!decide ((get v5.1.YK 19) = 1)))) (0 < (↑v5.1.YK.length : Int))) <|
 bif (bif (bif (bif (bif (bif (!decide (v5.2.code = 0)) then true else (!decide ((↑v5.1.rules.length : Int) = 6))) then true else (!decide ((↑v5.1.YK.length : Int) = 21))) then true else (!decide ((get v5.1.rules 0) = 1))) then true else (!decide ((get v5.1.YK 19) = 1))) then true else (!decide ((get v5.1.YK 0) = 0))) then
  some false
 else
  (d6r n v1 v5.1 (Yl.mk 0 0 [(Yl.mk (-1) 19 []), (Yl.mk 2 0 [(Yl.mk (-1) 9 [])])])).bind fun v12 =>
  some (bif (decide (v12.2.code = 0)) then (decide (v12.1.num = 1) && (decide (v12.1.den = 1))) else false)
def d4n (n : Nat) (a0 : Yq) (a1 : (List Yl)) (k0 : Nat) (s0 : (List Int) × (List Int)) : Option (Ctl (YS × Yf) ((List Int) × (List Int)) ((List Int) × (List Int))) :=
 (d5J n a0 (get a1 k0)).bind fun v12 =>
 bif (!decide (v12.code = 0)) then
  (d3q v12.code (↑k0 : Int)).bind fun v13 =>
  some (.ret ((YS.mk [] []), v13))
 else
  (d2w n (get a1 k0) s0.1 s0.2).bind fun v14 =>
  some (.nxt (v14.1, v14.2))
def d5v (t0 : (List Int) × (List Int)) : Option (YS × Yf) :=
 some ((YS.mk t0.1 t0.2), (Yf.mk 0 0))
def d5h (n : Nat) (a0 : Yq) (a1 : (List Yl)) : Option (YS × Yf) :=
 (d2v n a0).bind fun v1 =>
 bif (!decide (v1.code = 0)) then
  some ((YS.mk [] []), v1)
 else
  bif (decide (200 < (↑a1.length : Int))) then
   (d3q 2 (-2)).bind fun v2 =>
   some ((YS.mk [] []), v2)
  else
   chk (a0.rules.length * 8 ≤ top ∧ a0.rules.length ≤ top) <|
   chk (a0.YK.length * 8 ≤ top ∧ a0.YK.length ≤ top) <|
   YN (Zi (d4n n a0 a1) a1.length ((List.replicate a0.rules.length (default : Int)), (List.replicate a0.YK.length (default : Int)))) (d5v)
def d1y (self : (Yq) → (Yl) → (Int) → (Int) → (Int) → (Int) → Option (Yf × Int × Int)) (a0 : Yq) (a1 : Yl) (a2 : Int) (j1 : Int) (k3 : Nat) (s3 : Int × Int) : Option (Ctl (Yf × Int × Int) (Int × Int) (Int × Int)) :=
 (self a0 (get a1.kids k3) (wr .i64 (a2 + 1)) j1 s3.1 s3.2).bind fun v4 =>
 bif (!decide (v4.1.code = 0)) then
  some (.ret (v4.1, v4.2.1, v4.2.2))
 else
  some (.nxt (v4.2.1, v4.2.2))
def d2G (t3 : Int × Int) : Option (Yf × Int × Int) :=
 some ((Yf.mk 0 0), t3.1, t3.2)
def d0z (self : (Yq) → (Yl) → (Int) → (Int) → (Int) → (Int) → Option (Yf × Int × Int)) (a0 : Yq) (a1 : Yl) (a2 : Int) (j1 : Int) (d0a : Int) (j2 : Int) : Option (Yf × Int × Int) :=
 YN (Zi (d1y self a0 a1 a2 j1) a1.kids.length ((wr .i64 (d0a + 1)), j2)) (d2G)
def d0b (self : (Yq) → (Yl) → (Int) → (Int) → (Int) → (Int) → Option (Yf × Int × Int)) (d0a : Int) (d4C : Int) (j0 : Int) (a0 : Yq) (a1 : Yl) (a2 : Int) (j1 : Int) : Option (Yf × Int × Int) :=
 bif (decide (3 < j1)) then
  some ((Yf.mk 14 d0a), (wr .i64 (d0a + 1)), d4C)
 else
  bif (decide (j0 = 0)) then
   d0z self a0 a1 a2 j1 d0a (wr .i64 (d4C + 1))
  else
   d0z self a0 a1 a2 j1 d0a d4C
def d0y (self : (Yq) → (Yl) → (Int) → (Int) → (Int) → (Int) → Option (Yf × Int × Int)) (a1 : Yl) (d0a : Int) (d4C : Int) (a0 : Yq) (a2 : Int) (a3 : Int) (j0 : Int) : Option (Yf × Int × Int) :=
 bif (!decide ((↑a1.kids.length : Int) = j0)) then
  some ((Yf.mk 9 d0a), (wr .i64 (d0a + 1)), d4C)
 else
  bif (decide (j0 = 1)) then
   d0b self d0a d4C j0 a0 a1 a2 (wr .i64 (a3 + 1))
  else
   d0b self d0a d4C j0 a0 a1 a2 0
def Zf : Nat → (Yq) → (Yl) → (Int) → (Int) → (Int) → (Int) → Option (Yf × Int × Int)
 | 0, _, _, _, _, _, _ => none
 | n + 1, a0, a1, a2, a3, d0a, d4C =>
  bif (bif (decide (200 < (wr .i64 (d0a + 1)))) then true else (decide (48 < a2))) then
   some ((Yf.mk 1 d0a), (wr .i64 (d0a + 1)), d4C)
  else
   bif (bif (bif (decide (a1.rule < (-1))) then true else (decide ((↑a0.rules.length : Int) ≤ a1.rule))) then true else (bif (decide (a1.rule = (-1))) then (bif (decide (a1.lex < 0)) then true else (decide ((↑a0.YK.length : Int) ≤ a1.lex))) else false)) then
    some ((Yf.mk 3 d0a), (wr .i64 (d0a + 1)), d4C)
   else
    bif (bif (decide (0 ≤ a1.rule)) then (!decide (a1.lex = 0)) else false) then
     some ((Yf.mk 5 d0a), (wr .i64 (d0a + 1)), d4C)
    else
     bif (decide (0 ≤ a1.rule)) then
      chk (0 ≤ a1.rule ∧ a1.rule < (↑a0.rules.length : Int)) <|
      d0y (Zf n) a1 d0a d4C a0 a2 a3 ((get a0.rules a1.rule.toNat).kids)
     else
      d0y (Zf n) a1 d0a d4C a0 a2 a3 0
def ZI (n : Nat) (a0 : Yq) (a1 : Yl) : Option (Yf) :=
 (Zf n a0 a1 1 0 0 0).bind fun v1 =>
 bif (bif (decide (v1.1.code = 0)) then (decide (12 < v1.2.2)) else false) then
  some (Yf.mk 2 (-2))
 else
  some v1.1
def d1H (self : (Yl) → (Int) → (Int) → Option (Int)) (a0 : Yl) (a1 : Int) (a2 : Int) (s1 : Int × Int) : Option (Ctl (Int) (Int × Int) (Int)) :=
 bif (decide (s1.2 < (↑a0.kids.length : Int))) then
  chk (0 ≤ s1.2 ∧ s1.2 < (↑a0.kids.length : Int)) <|
  (self (get a0.kids s1.2.toNat) a1 a2).bind fun v5 =>
  some (.nxt ((wr .i64 (s1.1 + v5)), (wr .i64 (s1.2 + 1))))
 else
  some (.brk s1.1)
def d3d (t1 : Int) : Option (Int) :=
 some t1
def ZW (self : (Yl) → (Int) → (Int) → Option (Int)) (n : Nat) (a0 : Yl) (a1 : Int) (a2 : Int) (j0 : Int) : Option (Int) :=
 YN (d2a (d1H self a0 a1 a2) n (j0, 0)) (d3d)
def Zo : Nat → (Yl) → (Int) → (Int) → Option (Int)
 | 0, _, _, _ => none
 | n + 1, a0, a1, a2 =>
  bif (bif (decide (a0.rule = a1)) then (bif (decide (0 ≤ a1)) then true else (decide (a0.lex = a2))) else false) then
   ZW (Zo n) n a0 a1 a2 1
  else
   ZW (Zo n) n a0 a1 a2 0
def Zb (n : Nat) (a1 : (List Yl)) (a0 : Yq) (s1 : Int × Int × Int) : Option (Ctl (Bool) (Int × Int × Int) (Int × Int)) :=
 bif (bif (decide (s1.2.2 < (↑a1.length : Int))) then (decide (s1.1 = 0)) else false) then
  chk (0 ≤ s1.2.2 ∧ s1.2.2 < (↑a1.length : Int)) <|
  (ZI n a0 (get a1 s1.2.2.toNat)).bind fun v8 =>
  bif (!decide (v8.code = 0)) then
   some (.nxt (v8.code, s1.2.2, (wr .i64 (s1.2.2 + 1))))
  else
   some (.nxt (s1.1, s1.2.1, (wr .i64 (s1.2.2 + 1))))
 else
  some (.brk (s1.1, s1.2.1))
def Zn (n : Nat) (a1 : (List Yl)) (j5 : Int × Int) (s6 : Int × Int) : Option (Ctl (Ctl (Bool) (Int) (Unit)) (Int × Int) (Int)) :=
 bif (decide (s6.2 < (↑a1.length : Int))) then
  chk (0 ≤ s6.2 ∧ s6.2 < (↑a1.length : Int)) <|
  (Zo n (get a1 s6.2.toNat) j5.1 j5.2).bind fun v24 =>
  some (.nxt ((wr .i64 (s6.1 + v24)), (wr .i64 (s6.2 + 1))))
 else
  some (.brk s6.1)
def Zz (j5 : Int × Int) (v2 : YS × Yf) (s2 : Int) (t6 : Int) : Option (Ctl (Bool) (Int) (Unit)) :=
 chk (d5M (decide (0 ≤ j5.1)) (0 ≤ j5.1) ∧ d5M (decide (0 ≤ j5.1)) (j5.1 < (↑v2.1.rules.length : Int))) <|
 chk (d5M ((!(bif (decide (0 ≤ j5.1)) then (!decide ((get v2.1.rules j5.1.toNat) = t6)) else false)) && (decide (j5.1 < 0))) (0 ≤ j5.2) ∧ d5M ((!(bif (decide (0 ≤ j5.1)) then (!decide ((get v2.1.rules j5.1.toNat) = t6)) else false)) && (decide (j5.1 < 0))) (j5.2 < (↑v2.1.YK.length : Int))) <|
 bif (bif (bif (decide (0 ≤ j5.1)) then (!decide ((get v2.1.rules j5.1.toNat) = t6)) else false) then true else (bif (decide (j5.1 < 0)) then (!decide ((get v2.1.YK j5.2.toNat) = t6)) else false)) then
  some (.ret false)
 else
  some (.nxt (wr .i64 (s2 + 1)))
def Zd (n : Nat) (a1 : (List Yl)) (v2 : YS × Yf) (s2 : Int) (j5 : Int × Int) : Option (Ctl (Bool) (Int) (Unit)) :=
 YN (d2a (Zn n a1 j5) n (0, 0)) (Zz j5 v2 s2)
def ZA (n : Nat) (a0 : Yq) (a1 : (List Yl)) (v2 : YS × Yf) (s2 : Int) : Option (Ctl (Bool) (Int) (Unit)) :=
 bif (decide (s2 < (wr .i64 ((↑a0.rules.length : Int) + (↑a0.YK.length : Int))))) then
  bif (decide ((↑a0.rules.length : Int) ≤ s2)) then
   Zd n a1 v2 s2 (-1, (wr .i64 (s2 - (↑a0.rules.length : Int))))
  else
   Zd n a1 v2 s2 (s2, 0)
 else
  some (.brk ())
def d0m (t2 : Unit) : Option (Bool) :=
 some true
def Zc (n : Nat) (v2 : YS × Yf) (a0 : Yq) (a1 : (List Yl)) (t1 : Int × Int) : Option (Bool) :=
 bif (!decide (t1.1 = 0)) then
  some (bif (bif (decide (v2.2.code = t1.1) && (decide (v2.2.index = t1.2))) then (decide ((↑v2.1.rules.length : Int) = 0)) else false) then (decide ((↑v2.1.YK.length : Int) = 0)) else false)
 else
  bif (bif (bif (!decide (v2.2.code = 0)) then true else (!decide ((↑v2.1.rules.length : Int) = (↑a0.rules.length : Int)))) then true else (!decide ((↑v2.1.YK.length : Int) = (↑a0.YK.length : Int)))) then
   some false
  else
   YN (d2a (ZA n a0 a1 v2) n 0) (d0m)
def YU (n : Nat) (a1 : (List Yl)) (a0 : Yq) (v2 : YS × Yf) (j0 : Int × Int) : Option (Bool) :=
 YN (d2a (Zb n a1 a0) n (j0.1, j0.2, 0)) (Zc n v2 a0 a1)
def ZM (n : Nat) (a0 : Yq) (a1 : (List Yl)) : Option (Bool) :=
 (d0F n).bind fun v1 =>
 bif (!v1) then
  some false
 else
  (d5h n a0 a1).bind fun v2 =>
  (d0l n a0).bind fun v3 =>
  bif (bif (decide (v3.code = 0)) then (decide (200 < (↑a1.length : Int))) else false) then
   YU n a1 a0 v2 (2, -2)
  else
   YU n a1 a0 v2 (v3.code, v3.index)
end Go.Proofs.YtgaeiccgdpnkkaaGreatDoor

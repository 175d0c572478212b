/-
  Plain Lean functions, one for each Go function: what it answers (none: not said).
-/
import Derived.Test.YtaohdfpcdfbnlaaDoorData
import Derived.Test.YtaohdfpcdfbnlaaDoorHand
set_option linter.unusedVariables false
set_option linter.unusedSimpArgs false
namespace Go.Proofs.YtaohdfpcdfbnlaaDoor
open Go Go.Am

def glosswrightequalBase (a0 : Bs) : Option (ApiSimple) :=
  some (ApiSimple.mk a0 [])

def glosswrightequalFun (a0 : ApiSimple) (a1 : ApiSimple) : Option (ApiSimple) :=
  some (ApiSimple.mk [] [a0, a1])

def glosswrightequalHierarchyOf_b0 (a1 : (List Int)) (a0 : (List Bs)) (k0 : Nat) (s0 : (List ApiType)) : Option (Ctl (ApiHierarchy) ((List ApiType)) ((List ApiType))) :=
  bif (decide (0 < (↑k0 : Int))) then
    chk ((↑k0 : Int) < (↑a1.length : Int)) <|
    letM (s0 ++ [(ApiType.mk (get a0 k0) [(get a1 k0)])]) fun c14 =>
    chk (c14.length * 40 ≤ top ∧ c14.length ≤ top) <|
    some (.nxt c14)
  else
    chk ((s0.length + 1) * 40 ≤ top ∧ s0.length + 1 ≤ top) <|
    some (.nxt (s0 ++ [(ApiType.mk (get a0 k0) [])]))

def glosswrightequalHierarchyOf_a0 (a2 : (List ApiFeat)) (t0 : (List ApiType)) : Option (ApiHierarchy) :=
  some (ApiHierarchy.mk t0 a2)

def glosswrightequalHierarchyOf (a0 : (List Bs)) (a1 : (List Int)) (a2 : (List ApiFeat)) : Option (ApiHierarchy) :=
  thenM (rangeM (glosswrightequalHierarchyOf_b0 a1 a0) a0.length []) (glosswrightequalHierarchyOf_a0 a2)

def glosswrightequalBound (a0 : Int) : Option (ApiTerm) :=
  some (ApiTerm.mk 2 [] a0 (ApiSimple.mk [] []) [])

def glosswrightequalApp (a0 : ApiTerm) (a1 : ApiTerm) : Option (ApiTerm) :=
  some (ApiTerm.mk 4 [] 0 (ApiSimple.mk [] []) [a0, a1])

def glosswrightequalAbs (a0 : ApiSimple) (a1 : ApiTerm) : Option (ApiTerm) :=
  some (ApiTerm.mk 3 [] 0 a0 [a1])

def glosswrightequalMeanings (a0 : Bool) : Option ((List ApiTerm)) :=
  (glosswrightequalBase [101]).bind fun v1 =>
  (glosswrightequalBase [116]).bind fun v2 =>
  (glosswrightequalFun v1 v2).bind fun v3 =>
  (glosswrightequalFun v3 v2).bind fun v4 =>
  (glosswrightequalFun v1 v3).bind fun v5 =>
  (glosswrightequalFun v3 v4).bind fun v6 =>
  (glosswrightequalBound 1).bind fun v7 =>
  (glosswrightequalBound 0).bind fun v8 =>
  (glosswrightequalApp v7 v8).bind fun v9 =>
  (glosswrightequalAbs v3 v9).bind fun v10 =>
  (glosswrightequalAbs v4 v10).bind fun v11 =>
  (glosswrightequalBound 1).bind fun v12 =>
  (glosswrightequalBound 0).bind fun v13 =>
  (glosswrightequalApp v12 v13).bind fun v14 =>
  (glosswrightequalAbs v3 v14).bind fun v15 =>
  (glosswrightequalAbs v6 v15).bind fun v16 =>
  (glosswrightequalBound 0).bind fun v17 =>
  (glosswrightequalAbs v3 v17).bind fun v18 =>
  (glosswrightequalBound 1).bind fun v19 =>
  (glosswrightequalBound 3).bind fun v20 =>
  (glosswrightequalBound 1).bind fun v21 =>
  (glosswrightequalApp v20 v21).bind fun v22 =>
  (glosswrightequalBound 0).bind fun v23 =>
  (glosswrightequalApp v22 v23).bind fun v24 =>
  (glosswrightequalAbs v1 v24).bind fun v25 =>
  (glosswrightequalApp v19 v25).bind fun v26 =>
  (glosswrightequalAbs v1 v26).bind fun v27 =>
  (glosswrightequalAbs v4 v27).bind fun v28 =>
  (glosswrightequalAbs v5 v28).bind fun v29 =>
  (glosswrightequalFun v2 v2).bind fun v30 =>
  (glosswrightequalBound 2).bind fun v31 =>
  (glosswrightequalBound 1).bind fun v32 =>
  (glosswrightequalBound 0).bind fun v33 =>
  (glosswrightequalApp v32 v33).bind fun v34 =>
  (glosswrightequalApp v31 v34).bind fun v35 =>
  (glosswrightequalAbs v1 v35).bind fun v36 =>
  (glosswrightequalAbs v3 v36).bind fun v37 =>
  (glosswrightequalAbs v30 v37).bind fun v38 =>
  (glosswrightequalFun v2 v2).bind fun v39 =>
  (glosswrightequalFun v2 v39).bind fun v40 =>
  (glosswrightequalBound 2).bind fun v41 =>
  (glosswrightequalBound 3).bind fun v42 =>
  (glosswrightequalBound 0).bind fun v43 =>
  (glosswrightequalApp v42 v43).bind fun v44 =>
  (glosswrightequalApp v41 v44).bind fun v45 =>
  (glosswrightequalBound 1).bind fun v46 =>
  (glosswrightequalBound 0).bind fun v47 =>
  (glosswrightequalApp v46 v47).bind fun v48 =>
  (glosswrightequalApp v45 v48).bind fun v49 =>
  (glosswrightequalAbs v3 v49).bind fun v50 =>
  (glosswrightequalAbs v4 v50).bind fun v51 =>
  (glosswrightequalAbs v40 v51).bind fun v52 =>
  (glosswrightequalAbs v4 v52).bind fun v53 =>
  bif a0 then
    (glosswrightequalBound 0).bind fun v55 =>
    (glosswrightequalBound 1).bind fun v56 =>
    (glosswrightequalApp v55 v56).bind fun v57 =>
    (glosswrightequalAbs v4 v57).bind fun v58 =>
    (glosswrightequalAbs v3 v58).bind fun v59 =>
    (glosswrightequalBound 0).bind fun v60 =>
    (glosswrightequalBound 1).bind fun v61 =>
    (glosswrightequalApp v60 v61).bind fun v62 =>
    (glosswrightequalAbs v6 v62).bind fun v63 =>
    (glosswrightequalAbs v3 v63).bind fun v64 =>
    (glosswrightequalBound 2).bind fun v65 =>
    (glosswrightequalBound 2).bind fun v66 =>
    (glosswrightequalBound 1).bind fun v67 =>
    (glosswrightequalApp v66 v67).bind fun v68 =>
    (glosswrightequalBound 0).bind fun v69 =>
    (glosswrightequalApp v68 v69).bind fun v70 =>
    (glosswrightequalAbs v1 v70).bind fun v71 =>
    (glosswrightequalApp v65 v71).bind fun v72 =>
    (glosswrightequalAbs v1 v72).bind fun v73 =>
    (glosswrightequalAbs v5 v73).bind fun v74 =>
    (glosswrightequalAbs v4 v74).bind fun v75 =>
    some [v59, v64, v18, v75, v38, v53]
  else
    some [v11, v16, v18, v29, v38, v53]

def glosswrightequalGraphOf_b2 (a0 : (List (List Int))) (k0 : Nat) (s2 : (List ApiLink) × Int) : Option (Ctl (Ctl (ApiGraph) ((List ApiNode)) ((List ApiNode))) ((List ApiLink) × Int) ((List ApiLink))) :=
  bif (decide ((wr .i64 (s2.2 + 1)) < (↑((get a0 k0).length) : Int))) then
    chk (0 ≤ s2.2 ∧ s2.2 < (↑((get a0 k0).length) : Int)) <|
    chk (0 ≤ (wr .i64 (s2.2 + 1)) ∧ (wr .i64 (s2.2 + 1)) < (↑((get a0 k0).length) : Int)) <|
    letM (s2.1 ++ [(ApiLink.mk (get (get a0 k0) s2.2.toNat) (get (get a0 k0) ((wr .i64 (s2.2 + 1)).toNat)))]) fun c38 =>
    chk (c38.length * 16 ≤ top ∧ c38.length ≤ top) <|
    some (.nxt (c38, (wr .i64 (s2.2 + 2))))
  else
    some (.brk s2.1)

def glosswrightequalGraphOf_a2 (s0 : (List ApiNode)) (a0 : (List (List Int))) (k0 : Nat) (t2 : (List ApiLink)) : Option (Ctl (ApiGraph) ((List ApiNode)) ((List ApiNode))) :=
  chk ((s0.length + 1) * 32 ≤ top ∧ s0.length + 1 ≤ top) <|
  some (.nxt (s0 ++ [(ApiNode.mk (get (get a0 k0) 0) t2)]))

def glosswrightequalGraphOf_b0 (n : Nat) (a0 : (List (List Int))) (k0 : Nat) (s0 : (List ApiNode)) : Option (Ctl (ApiGraph) ((List ApiNode)) ((List ApiNode))) :=
  chk (0 < (↑((get a0 k0).length) : Int)) <|
  thenM (loopM (glosswrightequalGraphOf_b2 a0 k0) n ([], 1)) (glosswrightequalGraphOf_a2 s0 a0 k0)

def glosswrightequalGraphOf_a0 (t0 : (List ApiNode)) : Option (ApiGraph) :=
  some (ApiGraph.mk t0)

def glosswrightequalGraphOf (n : Nat) (a0 : (List (List Int))) : Option (ApiGraph) :=
  thenM (rangeM (glosswrightequalGraphOf_b0 n a0) a0.length []) (glosswrightequalGraphOf_a0)

end Go.Proofs.YtaohdfpcdfbnlaaDoor

namespace Go.Proofs.YtaohdfpcdfbnlaaDoor
open Go Go.Am

def glosswrightequalCon (a0 : Bs) (a1 : ApiSimple) : Option (ApiTerm) :=
  some (ApiTerm.mk 1 a0 0 a1 [])

def glosswrightequalQuantified_j0 (v3 : ApiSimple) (j0 : Int × Bs × Int × Bs × (List ApiSimple) × (List ApiTerm)) : Option (ApiTerm) :=
  (glosswrightequalAbs v3 (ApiTerm.mk j0.1 j0.2.1 j0.2.2.1 (ApiSimple.mk j0.2.2.2.1 j0.2.2.2.2.1) j0.2.2.2.2.2)).bind fun v22 =>
  (glosswrightequalAbs v3 v22).bind fun v23 =>
  some v23

def glosswrightequalQuantified (a0 : Bs) (a1 : Bs) (a2 : Bool) : Option (ApiTerm) :=
  (glosswrightequalBase [101]).bind fun v1 =>
  (glosswrightequalBase [116]).bind fun v2 =>
  (glosswrightequalFun v1 v2).bind fun v3 =>
  (glosswrightequalFun v3 v2).bind fun v4 =>
  (glosswrightequalCon a0 v4).bind fun v5 =>
  (glosswrightequalFun v2 v2).bind fun v6 =>
  (glosswrightequalFun v2 v6).bind fun v7 =>
  (glosswrightequalCon a1 v7).bind fun v8 =>
  (glosswrightequalBound 2).bind fun v9 =>
  (glosswrightequalBound 0).bind fun v10 =>
  (glosswrightequalApp v9 v10).bind fun v11 =>
  (glosswrightequalApp v8 v11).bind fun v12 =>
  (glosswrightequalBound 1).bind fun v13 =>
  (glosswrightequalBound 0).bind fun v14 =>
  (glosswrightequalApp v13 v14).bind fun v15 =>
  (glosswrightequalApp v12 v15).bind fun v16 =>
  (glosswrightequalAbs v1 v16).bind fun v17 =>
  (glosswrightequalApp v5 v17).bind fun v18 =>
  bif a2 then
    (glosswrightequalFun v2 v2).bind fun v19 =>
    (glosswrightequalCon [110, 111, 116] v19).bind fun v20 =>
    (glosswrightequalApp v20 v18).bind fun v21 =>
    glosswrightequalQuantified_j0 v3 (v21.kind, v21.name, v21.index, v21.type.base, v21.type.args, v21.args)
  else
    glosswrightequalQuantified_j0 v3 (v18.kind, v18.name, v18.index, v18.type.base, v18.type.args, v18.args)

def glosswrightequalSmall1 (n : Nat) (a0 : Bs) (a1 : Int) (a2 : ApiTerm) (a3 : (List (List Int))) (b0_0 : (List ApiType)) (b0_1 : (List ApiFeat)) (b0_2 : (List ApiRule)) (l1 : (List ApiLex)) (l2 : (List ApiNode)) : Option ((List ApiLex)) :=
  (glosswrightequalGraphOf n a3).bind fun v1 =>
  letM (l1 ++ [(ApiLex.mk a0 v1 a1 a2)]) fun c3 =>
  chk (c3.length * 144 ≤ top ∧ c3.length ≤ top) <|
  some c3

def glosswrightequalSmall (n : Nat) : Option (ApiGrammar) :=
  (glosswrightequalBase [101]).bind fun v1 =>
  (glosswrightequalBase [116]).bind fun v2 =>
  (glosswrightequalFun v1 v2).bind fun v3 =>
  (glosswrightequalFun v1 v3).bind fun v4 =>
  (glosswrightequalHierarchyOf [[116, 111, 112], [114, 117, 108, 101], [115, 105, 103, 110], [110, 117, 109], [115, 105, 110, 103], [112, 108, 117, 114], [115], [110, 112], [118, 112], [110], [100, 101, 116], [105, 118], [116, 118], [97, 100, 118], [99, 111, 110, 106]] [0, 0, 0, 0, 3, 3, 2, 2, 2, 2, 2, 2, 2, 2, 2] [(ApiFeat.mk [109, 111, 116, 104, 101, 114] 1 2), (ApiFeat.mk [111, 110, 101] 1 2), (ApiFeat.mk [116, 119, 111] 1 2), (ApiFeat.mk [116, 104, 114, 101, 101] 1 2), (ApiFeat.mk [110, 117, 109] 2 3)]).bind fun v8 =>
  (glosswrightequalMeanings false).bind fun v9 =>
  chk (0 < (↑v9.length : Int)) <|
  (glosswrightequalGraphOf n [[1, 0, 1, 1, 2, 2, 4], [6], [7, 4, 3], [3], [8, 4, 3]]).bind fun v17 =>
  chk (1 < (↑v9.length : Int)) <|
  (glosswrightequalGraphOf n [[1, 0, 1, 1, 3, 2, 4], [7, 4, 2], [3], [10, 4, 2], [9, 4, 2]]).bind fun v25 =>
  chk (2 < (↑v9.length : Int)) <|
  (glosswrightequalGraphOf n [[1, 0, 1, 1, 3], [8, 4, 2], [3], [11, 4, 2]]).bind fun v32 =>
  chk (3 < (↑v9.length : Int)) <|
  (glosswrightequalGraphOf n [[1, 0, 1, 1, 3, 2, 4], [8, 4, 2], [3], [12, 4, 2], [7]]).bind fun v40 =>
  chk (4 < (↑v9.length : Int)) <|
  (glosswrightequalGraphOf n [[1, 0, 1, 1, 3, 2, 4], [8, 4, 2], [3], [13], [8, 4, 2]]).bind fun v48 =>
  chk (5 < (↑v9.length : Int)) <|
  (glosswrightequalGraphOf n [[1, 0, 1, 1, 3, 2, 4, 3, 5], [7, 4, 2], [5], [7], [14], [7]]).bind fun v57 =>
  (glosswrightequalQuantified [97, 108, 108] [105, 102] false).bind fun v59 =>
  (glosswrightequalSmall1 n [101, 118, 101, 114, 121] 1 v59 [[10, 4, 1], [4]] v8.types v8.feats [(ApiRule.mk [115] v17 2 0 (get v9 0)), (ApiRule.mk [110, 112] v25 2 1 (get v9 1)), (ApiRule.mk [118, 112, 45, 105, 118] v32 1 0 (get v9 2)), (ApiRule.mk [118, 112, 45, 116, 118] v40 2 2 (get v9 3)), (ApiRule.mk [118, 112, 45, 110, 111, 116] v48 2 3 (get v9 4)), (ApiRule.mk [110, 112, 45, 97, 110, 100] v57 3 4 (get v9 5))] [] []).bind fun v63 =>
  (glosswrightequalQuantified [115, 111, 109, 101] [97, 110, 100] false).bind fun v64 =>
  (glosswrightequalSmall1 n [97] 0 v64 [[10, 4, 1], [4]] v8.types v8.feats [(ApiRule.mk [115] v17 2 0 (get v9 0)), (ApiRule.mk [110, 112] v25 2 1 (get v9 1)), (ApiRule.mk [118, 112, 45, 105, 118] v32 1 0 (get v9 2)), (ApiRule.mk [118, 112, 45, 116, 118] v40 2 2 (get v9 3)), (ApiRule.mk [118, 112, 45, 110, 111, 116] v48 2 3 (get v9 4)), (ApiRule.mk [110, 112, 45, 97, 110, 100] v57 3 4 (get v9 5))] v63 []).bind fun v68 =>
  (glosswrightequalQuantified [115, 111, 109, 101] [97, 110, 100] true).bind fun v69 =>
  (glosswrightequalSmall1 n [110, 111] 2 v69 [[10]] v8.types v8.feats [(ApiRule.mk [115] v17 2 0 (get v9 0)), (ApiRule.mk [110, 112] v25 2 1 (get v9 1)), (ApiRule.mk [118, 112, 45, 105, 118] v32 1 0 (get v9 2)), (ApiRule.mk [118, 112, 45, 116, 118] v40 2 2 (get v9 3)), (ApiRule.mk [118, 112, 45, 110, 111, 116] v48 2 3 (get v9 4)), (ApiRule.mk [110, 112, 45, 97, 110, 100] v57 3 4 (get v9 5))] v68 []).bind fun v72 =>
  (glosswrightequalCon [100, 111, 103] v3).bind fun v73 =>
  (glosswrightequalSmall1 n [100, 111, 103] 0 v73 [[9, 4, 1], [4]] v8.types v8.feats [(ApiRule.mk [115] v17 2 0 (get v9 0)), (ApiRule.mk [110, 112] v25 2 1 (get v9 1)), (ApiRule.mk [118, 112, 45, 105, 118] v32 1 0 (get v9 2)), (ApiRule.mk [118, 112, 45, 116, 118] v40 2 2 (get v9 3)), (ApiRule.mk [118, 112, 45, 110, 111, 116] v48 2 3 (get v9 4)), (ApiRule.mk [110, 112, 45, 97, 110, 100] v57 3 4 (get v9 5))] v72 []).bind fun v77 =>
  (glosswrightequalCon [100, 111, 103] v3).bind fun v78 =>
  (glosswrightequalSmall1 n [100, 111, 103, 115] 0 v78 [[9, 4, 1], [5]] v8.types v8.feats [(ApiRule.mk [115] v17 2 0 (get v9 0)), (ApiRule.mk [110, 112] v25 2 1 (get v9 1)), (ApiRule.mk [118, 112, 45, 105, 118] v32 1 0 (get v9 2)), (ApiRule.mk [118, 112, 45, 116, 118] v40 2 2 (get v9 3)), (ApiRule.mk [118, 112, 45, 110, 111, 116] v48 2 3 (get v9 4)), (ApiRule.mk [110, 112, 45, 97, 110, 100] v57 3 4 (get v9 5))] v77 []).bind fun v82 =>
  (glosswrightequalCon [99, 97, 116] v3).bind fun v83 =>
  (glosswrightequalSmall1 n [99, 97, 116] 0 v83 [[9, 4, 1], [4]] v8.types v8.feats [(ApiRule.mk [115] v17 2 0 (get v9 0)), (ApiRule.mk [110, 112] v25 2 1 (get v9 1)), (ApiRule.mk [118, 112, 45, 105, 118] v32 1 0 (get v9 2)), (ApiRule.mk [118, 112, 45, 116, 118] v40 2 2 (get v9 3)), (ApiRule.mk [118, 112, 45, 110, 111, 116] v48 2 3 (get v9 4)), (ApiRule.mk [110, 112, 45, 97, 110, 100] v57 3 4 (get v9 5))] v82 []).bind fun v87 =>
  (glosswrightequalCon [99, 97, 116] v3).bind fun v88 =>
  (glosswrightequalSmall1 n [99, 97, 116, 115] 0 v88 [[9, 4, 1], [5]] v8.types v8.feats [(ApiRule.mk [115] v17 2 0 (get v9 0)), (ApiRule.mk [110, 112] v25 2 1 (get v9 1)), (ApiRule.mk [118, 112, 45, 105, 118] v32 1 0 (get v9 2)), (ApiRule.mk [118, 112, 45, 116, 118] v40 2 2 (get v9 3)), (ApiRule.mk [118, 112, 45, 110, 111, 116] v48 2 3 (get v9 4)), (ApiRule.mk [110, 112, 45, 97, 110, 100] v57 3 4 (get v9 5))] v87 []).bind fun v92 =>
  (glosswrightequalCon [102, 105, 115, 104] v3).bind fun v93 =>
  (glosswrightequalSmall1 n [102, 105, 115, 104] 1 v93 [[9, 4, 1], [4]] v8.types v8.feats [(ApiRule.mk [115] v17 2 0 (get v9 0)), (ApiRule.mk [110, 112] v25 2 1 (get v9 1)), (ApiRule.mk [118, 112, 45, 105, 118] v32 1 0 (get v9 2)), (ApiRule.mk [118, 112, 45, 116, 118] v40 2 2 (get v9 3)), (ApiRule.mk [118, 112, 45, 110, 111, 116] v48 2 3 (get v9 4)), (ApiRule.mk [110, 112, 45, 97, 110, 100] v57 3 4 (get v9 5))] v92 []).bind fun v97 =>
  (glosswrightequalCon [102, 105, 115, 104] v3).bind fun v98 =>
  (glosswrightequalSmall1 n [102, 105, 115, 104] 2 v98 [[9, 4, 1], [5]] v8.types v8.feats [(ApiRule.mk [115] v17 2 0 (get v9 0)), (ApiRule.mk [110, 112] v25 2 1 (get v9 1)), (ApiRule.mk [118, 112, 45, 105, 118] v32 1 0 (get v9 2)), (ApiRule.mk [118, 112, 45, 116, 118] v40 2 2 (get v9 3)), (ApiRule.mk [118, 112, 45, 110, 111, 116] v48 2 3 (get v9 4)), (ApiRule.mk [110, 112, 45, 97, 110, 100] v57 3 4 (get v9 5))] v97 []).bind fun v102 =>
  (glosswrightequalCon [98, 97, 114, 107] v3).bind fun v103 =>
  (glosswrightequalSmall1 n [98, 97, 114, 107, 115] 0 v103 [[11, 4, 1], [4]] v8.types v8.feats [(ApiRule.mk [115] v17 2 0 (get v9 0)), (ApiRule.mk [110, 112] v25 2 1 (get v9 1)), (ApiRule.mk [118, 112, 45, 105, 118] v32 1 0 (get v9 2)), (ApiRule.mk [118, 112, 45, 116, 118] v40 2 2 (get v9 3)), (ApiRule.mk [118, 112, 45, 110, 111, 116] v48 2 3 (get v9 4)), (ApiRule.mk [110, 112, 45, 97, 110, 100] v57 3 4 (get v9 5))] v102 []).bind fun v107 =>
  (glosswrightequalCon [98, 97, 114, 107] v3).bind fun v108 =>
  (glosswrightequalSmall1 n [98, 97, 114, 107] 0 v108 [[11, 4, 1], [5]] v8.types v8.feats [(ApiRule.mk [115] v17 2 0 (get v9 0)), (ApiRule.mk [110, 112] v25 2 1 (get v9 1)), (ApiRule.mk [118, 112, 45, 105, 118] v32 1 0 (get v9 2)), (ApiRule.mk [118, 112, 45, 116, 118] v40 2 2 (get v9 3)), (ApiRule.mk [118, 112, 45, 110, 111, 116] v48 2 3 (get v9 4)), (ApiRule.mk [110, 112, 45, 97, 110, 100] v57 3 4 (get v9 5))] v107 []).bind fun v112 =>
  (glosswrightequalCon [115, 108, 101, 101, 112] v3).bind fun v113 =>
  (glosswrightequalSmall1 n [115, 108, 101, 101, 112, 115] 0 v113 [[11, 4, 1], [4]] v8.types v8.feats [(ApiRule.mk [115] v17 2 0 (get v9 0)), (ApiRule.mk [110, 112] v25 2 1 (get v9 1)), (ApiRule.mk [118, 112, 45, 105, 118] v32 1 0 (get v9 2)), (ApiRule.mk [118, 112, 45, 116, 118] v40 2 2 (get v9 3)), (ApiRule.mk [118, 112, 45, 110, 111, 116] v48 2 3 (get v9 4)), (ApiRule.mk [110, 112, 45, 97, 110, 100] v57 3 4 (get v9 5))] v112 []).bind fun v117 =>
  (glosswrightequalCon [115, 108, 101, 101, 112] v3).bind fun v118 =>
  (glosswrightequalSmall1 n [115, 108, 101, 101, 112] 0 v118 [[11, 4, 1], [5]] v8.types v8.feats [(ApiRule.mk [115] v17 2 0 (get v9 0)), (ApiRule.mk [110, 112] v25 2 1 (get v9 1)), (ApiRule.mk [118, 112, 45, 105, 118] v32 1 0 (get v9 2)), (ApiRule.mk [118, 112, 45, 116, 118] v40 2 2 (get v9 3)), (ApiRule.mk [118, 112, 45, 110, 111, 116] v48 2 3 (get v9 4)), (ApiRule.mk [110, 112, 45, 97, 110, 100] v57 3 4 (get v9 5))] v117 []).bind fun v122 =>
  (glosswrightequalCon [99, 104, 97, 115, 101] v4).bind fun v123 =>
  (glosswrightequalSmall1 n [99, 104, 97, 115, 101, 115] 0 v123 [[12, 4, 1], [4]] v8.types v8.feats [(ApiRule.mk [115] v17 2 0 (get v9 0)), (ApiRule.mk [110, 112] v25 2 1 (get v9 1)), (ApiRule.mk [118, 112, 45, 105, 118] v32 1 0 (get v9 2)), (ApiRule.mk [118, 112, 45, 116, 118] v40 2 2 (get v9 3)), (ApiRule.mk [118, 112, 45, 110, 111, 116] v48 2 3 (get v9 4)), (ApiRule.mk [110, 112, 45, 97, 110, 100] v57 3 4 (get v9 5))] v122 []).bind fun v127 =>
  (glosswrightequalCon [99, 104, 97, 115, 101] v4).bind fun v128 =>
  (glosswrightequalSmall1 n [99, 104, 97, 115, 101] 0 v128 [[12, 4, 1], [5]] v8.types v8.feats [(ApiRule.mk [115] v17 2 0 (get v9 0)), (ApiRule.mk [110, 112] v25 2 1 (get v9 1)), (ApiRule.mk [118, 112, 45, 105, 118] v32 1 0 (get v9 2)), (ApiRule.mk [118, 112, 45, 116, 118] v40 2 2 (get v9 3)), (ApiRule.mk [118, 112, 45, 110, 111, 116] v48 2 3 (get v9 4)), (ApiRule.mk [110, 112, 45, 97, 110, 100] v57 3 4 (get v9 5))] v127 []).bind fun v132 =>
  (glosswrightequalCon [115, 101, 101] v4).bind fun v133 =>
  (glosswrightequalSmall1 n [115, 101, 101, 115] 1 v133 [[12, 4, 1], [4]] v8.types v8.feats [(ApiRule.mk [115] v17 2 0 (get v9 0)), (ApiRule.mk [110, 112] v25 2 1 (get v9 1)), (ApiRule.mk [118, 112, 45, 105, 118] v32 1 0 (get v9 2)), (ApiRule.mk [118, 112, 45, 116, 118] v40 2 2 (get v9 3)), (ApiRule.mk [118, 112, 45, 110, 111, 116] v48 2 3 (get v9 4)), (ApiRule.mk [110, 112, 45, 97, 110, 100] v57 3 4 (get v9 5))] v132 []).bind fun v137 =>
  (glosswrightequalCon [115, 101, 101] v4).bind fun v138 =>
  (glosswrightequalSmall1 n [115, 101, 101] 1 v138 [[12, 4, 1], [5]] v8.types v8.feats [(ApiRule.mk [115] v17 2 0 (get v9 0)), (ApiRule.mk [110, 112] v25 2 1 (get v9 1)), (ApiRule.mk [118, 112, 45, 105, 118] v32 1 0 (get v9 2)), (ApiRule.mk [118, 112, 45, 116, 118] v40 2 2 (get v9 3)), (ApiRule.mk [118, 112, 45, 110, 111, 116] v48 2 3 (get v9 4)), (ApiRule.mk [110, 112, 45, 97, 110, 100] v57 3 4 (get v9 5))] v137 []).bind fun v142 =>
  (glosswrightequalFun v2 v2).bind fun v143 =>
  (glosswrightequalCon [110, 111, 116] v143).bind fun v144 =>
  (glosswrightequalSmall1 n [110, 111, 116] 0 v144 [[13]] v8.types v8.feats [(ApiRule.mk [115] v17 2 0 (get v9 0)), (ApiRule.mk [110, 112] v25 2 1 (get v9 1)), (ApiRule.mk [118, 112, 45, 105, 118] v32 1 0 (get v9 2)), (ApiRule.mk [118, 112, 45, 116, 118] v40 2 2 (get v9 3)), (ApiRule.mk [118, 112, 45, 110, 111, 116] v48 2 3 (get v9 4)), (ApiRule.mk [110, 112, 45, 97, 110, 100] v57 3 4 (get v9 5))] v142 []).bind fun v147 =>
  (glosswrightequalFun v2 v2).bind fun v148 =>
  (glosswrightequalFun v2 v148).bind fun v149 =>
  (glosswrightequalCon [97, 110, 100] v149).bind fun v150 =>
  (glosswrightequalSmall1 n [97, 110, 100] 0 v150 [[14]] v8.types v8.feats [(ApiRule.mk [115] v17 2 0 (get v9 0)), (ApiRule.mk [110, 112] v25 2 1 (get v9 1)), (ApiRule.mk [118, 112, 45, 105, 118] v32 1 0 (get v9 2)), (ApiRule.mk [118, 112, 45, 116, 118] v40 2 2 (get v9 3)), (ApiRule.mk [118, 112, 45, 110, 111, 116] v48 2 3 (get v9 4)), (ApiRule.mk [110, 112, 45, 97, 110, 100] v57 3 4 (get v9 5))] v147 []).bind fun v153 =>
  (glosswrightequalBound 0).bind fun v154 =>
  (glosswrightequalCon [114, 101, 120] v1).bind fun v155 =>
  (glosswrightequalApp v154 v155).bind fun v156 =>
  (glosswrightequalAbs v3 v156).bind fun v157 =>
  (glosswrightequalSmall1 n [114, 101, 120] 0 v157 [[7, 4, 1], [4]] v8.types v8.feats [(ApiRule.mk [115] v17 2 0 (get v9 0)), (ApiRule.mk [110, 112] v25 2 1 (get v9 1)), (ApiRule.mk [118, 112, 45, 105, 118] v32 1 0 (get v9 2)), (ApiRule.mk [118, 112, 45, 116, 118] v40 2 2 (get v9 3)), (ApiRule.mk [118, 112, 45, 110, 111, 116] v48 2 3 (get v9 4)), (ApiRule.mk [110, 112, 45, 97, 110, 100] v57 3 4 (get v9 5))] v153 []).bind fun v161 =>
  (glosswrightequalBound 0).bind fun v162 =>
  (glosswrightequalCon [109, 105, 97] v1).bind fun v163 =>
  (glosswrightequalApp v162 v163).bind fun v164 =>
  (glosswrightequalAbs v3 v164).bind fun v165 =>
  (glosswrightequalSmall1 n [109, 105, 97] 0 v165 [[7, 4, 1], [4]] v8.types v8.feats [(ApiRule.mk [115] v17 2 0 (get v9 0)), (ApiRule.mk [110, 112] v25 2 1 (get v9 1)), (ApiRule.mk [118, 112, 45, 105, 118] v32 1 0 (get v9 2)), (ApiRule.mk [118, 112, 45, 116, 118] v40 2 2 (get v9 3)), (ApiRule.mk [118, 112, 45, 110, 111, 116] v48 2 3 (get v9 4)), (ApiRule.mk [110, 112, 45, 97, 110, 100] v57 3 4 (get v9 5))] v161 []).bind fun v169 =>
  (glosswrightequalGraphOf n [[6]]).bind fun v172 =>
  some (ApiGrammar.mk v8 [(ApiRule.mk [115] v17 2 0 (get v9 0)), (ApiRule.mk [110, 112] v25 2 1 (get v9 1)), (ApiRule.mk [118, 112, 45, 105, 118] v32 1 0 (get v9 2)), (ApiRule.mk [118, 112, 45, 116, 118] v40 2 2 (get v9 3)), (ApiRule.mk [118, 112, 45, 110, 111, 116] v48 2 3 (get v9 4)), (ApiRule.mk [110, 112, 45, 97, 110, 100] v57 3 4 (get v9 5))] v169 v172)

end Go.Proofs.YtaohdfpcdfbnlaaDoor

namespace Go.Proofs.YtaohdfpcdfbnlaaDoor
open Go Go.Am

def hierarchyFault (a0 : Int) (a1 : Int) : Option (ApiFault) :=
  some (ApiFault.mk a0 a1)

def termName_b0 (a0 : Bs) (k0 : Nat) (s0 : Unit) : Option (Ctl (Bool) (Unit) (Unit)) :=
  bif (!(bif (bif (bif (bif (decide (97 ≤ (byteAt a0 (↑k0 : Int)))) then (decide ((byteAt a0 (↑k0 : Int)) ≤ 122)) else false) then true else (bif (decide (48 ≤ (byteAt a0 (↑k0 : Int)))) then (decide ((byteAt a0 (↑k0 : Int)) ≤ 57)) else false)) then true else (decide ((byteAt a0 (↑k0 : Int)) = 95))) then true else (decide ((byteAt a0 (↑k0 : Int)) = 45)))) then
    some (.ret false)
  else
    some (.nxt ())

def termName_a0 (t0 : Unit) : Option (Bool) :=
  some true

def termName (a0 : Bs) : Option (Bool) :=
  chk (gImp (!(bif (decide ((↑a0.length : Int) = 0)) then true else (decide (30 < (↑a0.length : Int))))) (0 < (↑a0.length : Int))) <|
  chk (gImp (!(bif (bif (decide ((↑a0.length : Int) = 0)) then true else (decide (30 < (↑a0.length : Int)))) then true else (decide ((byteAt a0 0) < 97)))) (0 < (↑a0.length : Int))) <|
  bif (bif (bif (bif (decide ((↑a0.length : Int) = 0)) then true else (decide (30 < (↑a0.length : Int)))) then true else (decide ((byteAt a0 0) < 97))) then true else (decide (122 < (byteAt a0 0)))) then
    some false
  else
    chk (a0.length ≤ 9223372036854775807) <|
    thenM (rangeM (termName_b0 a0) a0.length ()) (termName_a0)

def hierarchyTypes_b2 (a0 : (List ApiType)) (k0 : Nat) (k2 : Nat) (s2 : Int) : Option (Ctl (Ctl (ApiFault) ((List (Bs × Int))) ((List (Bs × Int)))) (Int) (Int)) :=
  bif (bif (decide ((get ((get a0 k0).parents) k2) < 0)) then true else (decide ((↑k0 : Int) ≤ (get ((get a0 k0).parents) k2)))) then
    (hierarchyFault 3 (↑k0 : Int)).bind fun v20 =>
    some (.ret (.ret v20))
  else
    bif (decide ((get ((get a0 k0).parents) k2) ≤ s2)) then
      (hierarchyFault 13 (↑k0 : Int)).bind fun v21 =>
      some (.ret (.ret v21))
    else
      some (.nxt (get ((get a0 k0).parents) k2))

def hierarchyTypes_a2 (c15 : (List (Bs × Int))) (t2 : Int) : Option (Ctl (ApiFault) ((List (Bs × Int))) ((List (Bs × Int)))) :=
  some (.nxt c15)

def hierarchyTypes_b0 (a0 : (List ApiType)) (k0 : Nat) (s0 : (List (Bs × Int))) : Option (Ctl (ApiFault) ((List (Bs × Int))) ((List (Bs × Int)))) :=
  (termName ((get a0 k0).name)).bind fun v12 =>
  bif (!v12) then
    (hierarchyFault 10 (↑k0 : Int)).bind fun v13 =>
    some (.ret v13)
  else
    bif (assoc ((get a0 k0).name) s0).isSome then
      (hierarchyFault 7 (↑k0 : Int)).bind fun v14 =>
      some (.ret v14)
    else
      letM (assocSet ((get a0 k0).name) (↑k0 : Int) s0) fun c15 =>
      bif (!decide ((decide ((↑k0 : Int) = 0)) = (decide ((↑(((get a0 k0).parents).length) : Int) = 0)))) then
        (hierarchyFault 5 (↑k0 : Int)).bind fun v17 =>
        some (.ret v17)
      else
        thenM (rangeM (hierarchyTypes_b2 a0 k0) (((get a0 k0).parents).length) (-1)) (hierarchyTypes_a2 c15)

def hierarchyTypes_a0 (t0 : (List (Bs × Int))) : Option (ApiFault) :=
  some (ApiFault.mk 0 0)

def hierarchyTypes (a0 : (List ApiType)) : Option (ApiFault) :=
  bif (bif (decide ((↑a0.length : Int) = 0)) then true else (decide (60 < (↑a0.length : Int)))) then
    (hierarchyFault 2 (-1)).bind fun v1 =>
    some v1
  else
    thenM (rangeM (hierarchyTypes_b0 a0) a0.length []) (hierarchyTypes_a0)

def hierarchyTables_b3 (k0 : Nat) (a0 : (List ApiType)) (k3 : Nat) (s3 : (List Int)) : Option (Ctl (Ctl (HierarchyTable) ((List Int) × (List Int)) ((List Int) × (List Int))) ((List Int)) ((List Int))) :=
  chk ((↑k0 : Int) < (↑s3.length : Int)) <|
  chk (0 ≤ (get ((get a0 k0).parents) k3) ∧ (get ((get a0 k0).parents) k3) < (↑s3.length : Int)) <|
  letM (s3.set k0 (bitop .or .u64 (get s3 k0) (get s3 ((get ((get a0 k0).parents) k3).toNat)))) fun c86 =>
  some (.nxt c86)

def hierarchyTables_b4 (k0 : Nat) (t3 : (List Int)) (k4 : Nat) (s4 : (List Int)) : Option (Ctl (Ctl (HierarchyTable) ((List Int) × (List Int)) ((List Int) × (List Int))) ((List Int)) ((List Int))) :=
  chk ((↑k0 : Int) < (↑t3.length : Int)) <|
  chk (0 ≤ (↑k4 : Int)) <|
  bif (decide ((bitop .and .u64 (Int.fdiv (get t3 k0) (2 ^ (min k4 64))) 1) = 1)) then
    chk ((↑k4 : Int) < (↑s4.length : Int)) <|
    letM (s4.set k4 (bitop .or .u64 (get s4 k4) (wr .u64 (1 * 2 ^ (min k0 64))))) fun c110 =>
    some (.nxt c110)
  else
    some (.nxt s4)

def hierarchyTables_a4 (t3 : (List Int)) (t4 : (List Int)) : Option (Ctl (HierarchyTable) ((List Int) × (List Int)) ((List Int) × (List Int))) :=
  some (.nxt (t3, t4))

def hierarchyTables_a3 (k0 : Nat) (a0 : (List ApiType)) (s0 : (List Int) × (List Int)) (t3 : (List Int)) : Option (Ctl (HierarchyTable) ((List Int) × (List Int)) ((List Int) × (List Int))) :=
  thenM (rangeM (hierarchyTables_b4 k0 t3) a0.length s0.2) (hierarchyTables_a4 t3)

def hierarchyTables_b0 (a0 : (List ApiType)) (k0 : Nat) (s0 : (List Int) × (List Int)) : Option (Ctl (HierarchyTable) ((List Int) × (List Int)) ((List Int) × (List Int))) :=
  chk (0 ≤ (↑k0 : Int)) <|
  chk ((↑k0 : Int) < (↑s0.1.length : Int)) <|
  letM (s0.1.set k0 (wr .u64 (1 * 2 ^ (min k0 64)))) fun c62 =>
  thenM (rangeM (hierarchyTables_b3 k0 a0) (((get a0 k0).parents).length) c62) (hierarchyTables_a3 k0 a0 s0)

def hierarchyTables_a0 (t0 : (List Int) × (List Int)) : Option (HierarchyTable) :=
  some (HierarchyTable.mk t0.1 t0.2)

def hierarchyTables (a0 : (List ApiType)) : Option (HierarchyTable) :=
  chk (a0.length * 8 ≤ top ∧ a0.length ≤ top) <|
  thenM (rangeM (hierarchyTables_b0 a0) a0.length ((List.replicate a0.length (default : Int)), (List.replicate a0.length (default : Int)))) (hierarchyTables_a0)

end Go.Proofs.YtaohdfpcdfbnlaaDoor

namespace Go.Proofs.YtaohdfpcdfbnlaaDoor
open Go Go.Am

def mathBitsTrailingZeros64 (a0 : Int) : Option (Int) :=
  bif (decide (a0 = 0)) then
    some 64
  else
    chk (0 ≤ (Int.fdiv (wr .u64 ((bitop .and .u64 a0 (wr .u64 (0 - a0))) * 285870213051353865)) (2 ^ (min 58 64))) ∧ (Int.fdiv (wr .u64 ((bitop .and .u64 a0 (wr .u64 (0 - a0))) * 285870213051353865)) (2 ^ (min 58 64))) < 64) <|
    some (wr .i64 (get tab0 ((Int.fdiv (wr .u64 ((bitop .and .u64 a0 (wr .u64 (0 - a0))) * 285870213051353865)) (2 ^ (min 58 64))).toNat)))

def hierarchyTableMeet (a0 : HierarchyTable) (a1 : Int) (a2 : Int) : Option (Int × Bool × Bool) :=
  chk (0 ≤ a1 ∧ a1 < (↑a0.down.length : Int)) <|
  chk (0 ≤ a2 ∧ a2 < (↑a0.down.length : Int)) <|
  bif (decide ((bitop .and .u64 (get a0.down a1.toNat) (get a0.down a2.toNat)) = 0)) then
    some (0, false, false)
  else
    (mathBitsTrailingZeros64 (bitop .and .u64 (get a0.down a1.toNat) (get a0.down a2.toNat))).bind fun v5 =>
    chk (0 ≤ v5 ∧ v5 < (↑a0.down.length : Int)) <|
    bif (!decide ((get a0.down v5.toNat) = (bitop .and .u64 (get a0.down a1.toNat) (get a0.down a2.toNat)))) then
      some (0, false, true)
    else
      some (v5, true, false)

def hierarchyValidate_b1 (v3 : HierarchyTable) (k0 : Nat) (k1 : Nat) (s1 : Unit) : Option (Ctl (Ctl (ApiFault) (Unit) (Unit)) (Unit) (Unit)) :=
  (hierarchyTableMeet v3 (↑k1 : Int) (↑k0 : Int)).bind fun v6 =>
  bif v6.2.2 then
    (hierarchyFault 16 (↑k0 : Int)).bind fun v7 =>
    some (.ret (.ret v7))
  else
    some (.nxt ())

def hierarchyValidate_a1 (t1 : Unit) : Option (Ctl (ApiFault) (Unit) (Unit)) :=
  some (.nxt ())

def hierarchyValidate_b0 (v3 : HierarchyTable) (k0 : Nat) (s0 : Unit) : Option (Ctl (ApiFault) (Unit) (Unit)) :=
  chk (k0 ≤ 9223372036854775807) <|
  thenM (rangeM (hierarchyValidate_b1 v3 k0) k0 ()) (hierarchyValidate_a1)

def hierarchyValidate_b2 (a0 : ApiHierarchy) (k2 : Nat) (s2 : (List (Bs × Int))) : Option (Ctl (ApiFault) ((List (Bs × Int))) ((List (Bs × Int)))) :=
  (termName ((get a0.feats k2).name)).bind fun v14 =>
  bif (!v14) then
    (hierarchyFault 10 (↑k2 : Int)).bind fun v15 =>
    some (.ret v15)
  else
    bif (assoc ((get a0.feats k2).name) s2).isSome then
      (hierarchyFault 7 (↑k2 : Int)).bind fun v16 =>
      some (.ret v16)
    else
      letM (assocSet ((get a0.feats k2).name) (↑k2 : Int) s2) fun c17 =>
      bif (bif (bif (bif (decide (((get a0.feats k2).of_) < 0)) then true else (decide ((↑a0.types.length : Int) ≤ ((get a0.feats k2).of_)))) then true else (decide (((get a0.feats k2).value) < 0))) then true else (decide ((↑a0.types.length : Int) ≤ ((get a0.feats k2).value)))) then
        (hierarchyFault 3 (↑k2 : Int)).bind fun v19 =>
        some (.ret v19)
      else
        some (.nxt c17)

def hierarchyValidate_a2 (t2 : (List (Bs × Int))) : Option (ApiFault) :=
  some (ApiFault.mk 0 0)

def hierarchyValidate_a0 (a0 : ApiHierarchy) (t0 : Unit) : Option (ApiFault) :=
  thenM (rangeM (hierarchyValidate_b2 a0) a0.feats.length []) (hierarchyValidate_a2)

def hierarchyValidate (a0 : ApiHierarchy) : Option (ApiFault) :=
  bif (bif (bif (decide ((↑a0.types.length : Int) = 0)) then true else (decide (60 < (↑a0.types.length : Int)))) then true else (decide (40 < (↑a0.feats.length : Int)))) then
    (hierarchyFault 2 (-1)).bind fun v1 =>
    some v1
  else
    (hierarchyTypes a0.types).bind fun v2 =>
    bif (!decide (v2.code = 0)) then
      some v2
    else
      (hierarchyTables a0.types).bind fun v3 =>
      chk (a0.types.length ≤ 9223372036854775807) <|
      thenM (rangeM (hierarchyValidate_b0 v3) a0.types.length ()) (hierarchyValidate_a0 a0)

def grammarFault (a0 : Int) (a1 : Int) : Option (ApiFault) :=
  some (ApiFault.mk a0 a1)

def graphFault (a0 : Int) (a1 : Int) : Option (ApiFault) :=
  some (ApiFault.mk a0 a1)

def graphLoose_b2 (a1 : ApiGraph) (k0 : Nat) (a0 : ApiHierarchy) (k2 : Nat) (s2 : Int) : Option (Ctl (Ctl (ApiFault) (Unit) (Unit)) (Int) (Int)) :=
  bif (bif (bif (bif (decide (((get ((get a1.nodes k0).links) k2).feat) < 0)) then true else (decide ((↑a0.feats.length : Int) ≤ ((get ((get a1.nodes k0).links) k2).feat)))) then true else (decide (((get ((get a1.nodes k0).links) k2).to_) < 0))) then true else (decide ((↑a1.nodes.length : Int) ≤ ((get ((get a1.nodes k0).links) k2).to_)))) then
    (graphFault 3 (↑k0 : Int)).bind fun v10 =>
    some (.ret (.ret v10))
  else
    bif (decide (((get ((get a1.nodes k0).links) k2).feat) ≤ s2)) then
      (graphFault 13 (↑k0 : Int)).bind fun v11 =>
      some (.ret (.ret v11))
    else
      some (.nxt ((get ((get a1.nodes k0).links) k2).feat))

def graphLoose_a2 (t2 : Int) : Option (Ctl (ApiFault) (Unit) (Unit)) :=
  some (.nxt ())

def graphLoose_b0 (a1 : ApiGraph) (a0 : ApiHierarchy) (k0 : Nat) (s0 : Unit) : Option (Ctl (ApiFault) (Unit) (Unit)) :=
  bif (bif (decide (((get a1.nodes k0).type) < 0)) then true else (decide ((↑a0.types.length : Int) ≤ ((get a1.nodes k0).type)))) then
    (graphFault 3 (↑k0 : Int)).bind fun v7 =>
    some (.ret v7)
  else
    thenM (rangeM (graphLoose_b2 a1 k0 a0) (((get a1.nodes k0).links).length) (-1)) (graphLoose_a2)

def graphLoose_a0 (t0 : Unit) : Option (ApiFault) :=
  some (ApiFault.mk 0 0)

def graphLoose (a0 : ApiHierarchy) (a1 : ApiGraph) : Option (ApiFault) :=
  bif (bif (decide ((↑a1.nodes.length : Int) = 0)) then true else (decide (60 < (↑a1.nodes.length : Int)))) then
    (graphFault 2 (-2)).bind fun v1 =>
    some v1
  else
    thenM (rangeM (graphLoose_b0 a1 a0) a1.nodes.length ()) (graphLoose_a0)

end Go.Proofs.YtaohdfpcdfbnlaaDoor

namespace Go.Proofs.YtaohdfpcdfbnlaaDoor
open Go Go.Am

def hierarchyTableSub (a0 : HierarchyTable) (a1 : Int) (a2 : Int) : Option (Bool) :=
  chk (0 ≤ a1 ∧ a1 < (↑a0.up.length : Int)) <|
  chk (0 ≤ a2) <|
  some (decide ((bitop .and .u64 (Int.fdiv (get a0.up a1.toNat) (2 ^ (min a2.toNat 64))) 1) = 1))

def slicesIndexBoolBool_b0 (a1 : Bool) (a0 : (List Bool)) (k0 : Nat) (s0 : Unit) : Option (Ctl (Int) (Unit) (Unit)) :=
  bif (decide (a1 = (get a0 k0))) then
    some (.ret (↑k0 : Int))
  else
    some (.nxt ())

def slicesIndexBoolBool_a0 (t0 : Unit) : Option (Int) :=
  some (-1)

def slicesIndexBoolBool (a0 : (List Bool)) (a1 : Bool) : Option (Int) :=
  thenM (rangeM (slicesIndexBoolBool_b0 a1 a0) a0.length ()) (slicesIndexBoolBool_a0)

def graphUnreached_b2 (a0 : ApiGraph) (s0 : (List Bool) × (List Int) × Nat) (k2 : Nat) (s2 : (List Bool) × (List Int) × Nat) : Option (Ctl (Ctl (Int) ((List Bool) × (List Int) × Nat) ((List Bool))) ((List Bool) × (List Int) × Nat) ((List Bool) × (List Int) × Nat)) :=
  chk (0 ≤ (get ((get a0.nodes ((get s0.2.1 ((wr .i64 ((↑s0.2.2 : Int) - 1)).toNat)).toNat)).links) k2).to_ ∧ (get ((get a0.nodes ((get s0.2.1 ((wr .i64 ((↑s0.2.2 : Int) - 1)).toNat)).toNat)).links) k2).to_ < (↑s2.1.length : Int)) <|
  bif (!(get s2.1 (((get ((get a0.nodes ((get s0.2.1 ((wr .i64 ((↑s0.2.2 : Int) - 1)).toNat)).toNat)).links) k2).to_).toNat))) then
    letM (s2.1.set (((get ((get a0.nodes ((get s0.2.1 ((wr .i64 ((↑s0.2.2 : Int) - 1)).toNat)).toNat)).links) k2).to_).toNat) true) fun c79 =>
    chk (s2.2.2 ≤ s2.2.1.length) <|
    letM ((s2.2.1.take s2.2.2) ++ [(get ((get a0.nodes ((get s0.2.1 ((wr .i64 ((↑s0.2.2 : Int) - 1)).toNat)).toNat)).links) k2).to_]) fun c84 =>
    chk (c84.length * 8 ≤ top ∧ c84.length ≤ top) <|
    some (.nxt (c79, c84, c84.length))
  else
    some (.nxt (s2.1, s2.2.1, s2.2.2))

def graphUnreached_a2 (t2 : (List Bool) × (List Int) × Nat) : Option (Ctl (Int) ((List Bool) × (List Int) × Nat) ((List Bool))) :=
  some (.nxt (t2.1, t2.2.1, t2.2.2))

def graphUnreached_b0 (a0 : ApiGraph) (s0 : (List Bool) × (List Int) × Nat) : Option (Ctl (Int) ((List Bool) × (List Int) × Nat) ((List Bool))) :=
  bif (decide (0 < (↑s0.2.2 : Int))) then
    chk (s0.2.2 ≤ s0.2.1.length) <|
    chk (0 ≤ (wr .i64 ((↑s0.2.2 : Int) - 1)) ∧ (wr .i64 ((↑s0.2.2 : Int) - 1)) < (↑s0.2.2 : Int)) <|
    chk ((wr .i64 ((↑s0.2.2 : Int) - 1)).toNat ≤ s0.2.2) <|
    chk (0 ≤ (get s0.2.1 ((wr .i64 ((↑s0.2.2 : Int) - 1)).toNat)) ∧ (get s0.2.1 ((wr .i64 ((↑s0.2.2 : Int) - 1)).toNat)) < (↑a0.nodes.length : Int)) <|
    thenM (rangeM (graphUnreached_b2 a0 s0) (((get a0.nodes ((get s0.2.1 ((wr .i64 ((↑s0.2.2 : Int) - 1)).toNat)).toNat)).links).length) (s0.1, s0.2.1, (wr .i64 ((↑s0.2.2 : Int) - 1)).toNat)) (graphUnreached_a2)
  else
    some (.brk s0.1)

def graphUnreached_a0 (t0 : (List Bool)) : Option (Int) :=
  (slicesIndexBoolBool t0 false).bind fun v89 =>
  some v89

def graphUnreached (n : Nat) (a0 : ApiGraph) : Option (Int) :=
  chk (a0.nodes.length * 1 ≤ top ∧ a0.nodes.length ≤ top) <|
  chk (0 < (↑a0.nodes.length : Int)) <|
  letM ((List.replicate a0.nodes.length (default : Bool)).set 0 true) fun c7 =>
  thenM (loopM (graphUnreached_b0 a0) n (c7, [0], 1)) (graphUnreached_a0)

def graphWithin_b2 (a2 : ApiGraph) (k0 : Nat) (a0 : ApiHierarchy) (a1 : HierarchyTable) (k2 : Nat) (s2 : Unit) : Option (Ctl (Ctl (ApiFault) (Unit) (Unit)) (Unit) (Unit)) :=
  chk (0 ≤ (get ((get a2.nodes k0).links) k2).feat ∧ (get ((get a2.nodes k0).links) k2).feat < (↑a0.feats.length : Int)) <|
  (hierarchyTableSub a1 ((get a2.nodes k0).type) ((get a0.feats (((get ((get a2.nodes k0).links) k2).feat).toNat)).of_)).bind fun v28 =>
  chk (gImp (!(!v28)) (0 ≤ (get ((get a2.nodes k0).links) k2).to_) ∧ gImp (!(!v28)) ((get ((get a2.nodes k0).links) k2).to_ < (↑a2.nodes.length : Int))) <|
  (gd (!(!v28)) (hierarchyTableSub a1 ((get a2.nodes (((get ((get a2.nodes k0).links) k2).to_).toNat)).type) ((get a0.feats (((get ((get a2.nodes k0).links) k2).feat).toNat)).value)) default).bind fun v32 =>
  bif (bif (!v28) then true else (!v32)) then
    (graphFault 12 (↑k0 : Int)).bind fun v33 =>
    some (.ret (.ret v33))
  else
    some (.nxt ())

def graphWithin_a2 (t2 : Unit) : Option (Ctl (ApiFault) (Unit) (Unit)) :=
  some (.nxt ())

def graphWithin_b0 (a2 : ApiGraph) (a0 : ApiHierarchy) (a1 : HierarchyTable) (k0 : Nat) (s0 : Unit) : Option (Ctl (ApiFault) (Unit) (Unit)) :=
  thenM (rangeM (graphWithin_b2 a2 k0 a0 a1) (((get a2.nodes k0).links).length) ()) (graphWithin_a2)

def graphWithin_a0 (n : Nat) (a2 : ApiGraph) (t0 : Unit) : Option (ApiFault) :=
  (graphUnreached n a2).bind fun v34 =>
  bif (decide (0 ≤ v34)) then
    (graphFault 5 v34).bind fun v35 =>
    some v35
  else
    some (ApiFault.mk 0 0)

def graphWithin (n : Nat) (a0 : ApiHierarchy) (a1 : HierarchyTable) (a2 : ApiGraph) : Option (ApiFault) :=
  (graphLoose a0 a2).bind fun v1 =>
  bif (!decide (v1.code = 0)) then
    some v1
  else
    thenM (rangeM (graphWithin_b0 a2 a0 a1) a2.nodes.length ()) (graphWithin_a0 n a2)

end Go.Proofs.YtaohdfpcdfbnlaaDoor

namespace Go.Proofs.YtaohdfpcdfbnlaaDoor
open Go Go.Am

def cmpIsNaNInt (a0 : Int) : Option (Bool) :=
  some false

def cmpCompareInt (a0 : Int) (a1 : Int) : Option (Int) :=
  (cmpIsNaNInt a0).bind fun v1 =>
  (cmpIsNaNInt a1).bind fun v2 =>
  bif v1 then
    bif v2 then
      some 0
    else
      some (-1)
  else
    bif v2 then
      some 1
    else
      bif (decide (a0 < a1)) then
        some (-1)
      else
        bif (decide (a1 < a0)) then
          some 1
        else
          some 0

def graphTarget1 (a0 : ApiLink) (a1 : Int) : Option (Int) :=
  (cmpCompareInt a0.feat a1).bind fun v1 =>
  some v1

def slicesBinarySearchFuncApiLinkApiLinkInt_b0 (a0 : (List ApiLink)) (a1 : Int) (s0 : Int × Int) : Option (Ctl (Int × Bool) (Int × Int) (Int)) :=
  bif (decide (s0.2 < s0.1)) then
    chk (0 ≤ (wr .i64 (Int.fdiv (wr .u64 (wr .i64 (s0.2 + s0.1))) (2 ^ (min 1 64)))) ∧ (wr .i64 (Int.fdiv (wr .u64 (wr .i64 (s0.2 + s0.1))) (2 ^ (min 1 64)))) < (↑a0.length : Int)) <|
    (graphTarget1 (get a0 ((wr .i64 (Int.fdiv (wr .u64 (wr .i64 (s0.2 + s0.1))) (2 ^ (min 1 64)))).toNat)) a1).bind fun v6 =>
    bif (decide (v6 < 0)) then
      some (.nxt (s0.1, (wr .i64 ((wr .i64 (Int.fdiv (wr .u64 (wr .i64 (s0.2 + s0.1))) (2 ^ (min 1 64)))) + 1))))
    else
      some (.nxt ((wr .i64 (Int.fdiv (wr .u64 (wr .i64 (s0.2 + s0.1))) (2 ^ (min 1 64)))), s0.2))
  else
    some (.brk s0.2)

def slicesBinarySearchFuncApiLinkApiLinkInt_a0 (a0 : (List ApiLink)) (a1 : Int) (t0 : Int) : Option (Int × Bool) :=
  chk (gImp (decide (t0 < (↑a0.length : Int))) (0 ≤ t0) ∧ gImp (decide (t0 < (↑a0.length : Int))) (t0 < (↑a0.length : Int))) <|
  (gd (decide (t0 < (↑a0.length : Int))) (graphTarget1 (get a0 t0.toNat) a1) default).bind fun v10 =>
  some (t0, (bif (decide (t0 < (↑a0.length : Int))) then (decide (v10 = 0)) else false))

def slicesBinarySearchFuncApiLinkApiLinkInt (n : Nat) (a0 : (List ApiLink)) (a1 : Int) : Option (Int × Bool) :=
  thenM (loopM (slicesBinarySearchFuncApiLinkApiLinkInt_b0 a0 a1) n ((↑a0.length : Int), 0)) (slicesBinarySearchFuncApiLinkApiLinkInt_a0 a0 a1)

def graphTarget (n : Nat) (a0 : ApiGraph) (a1 : Int) (a2 : Int) : Option (Int) :=
  chk (0 ≤ a1 ∧ a1 < (↑a0.nodes.length : Int)) <|
  (slicesBinarySearchFuncApiLinkApiLinkInt n ((get a0.nodes a1.toNat).links) a2).bind fun v3 =>
  bif (!v3.2) then
    some (-1)
  else
    chk (0 ≤ v3.1 ∧ v3.1 < (↑(((get a0.nodes a1.toNat).links).length) : Int)) <|
    some ((get ((get a0.nodes a1.toNat).links) v3.1.toNat).to_)

def lexrulePlaces_b0 (n : Nat) (a0 : ApiGraph) (a1 : Int) (k0 : Nat) (s0 : Unit) : Option (Ctl (Bool) (Unit) (Unit)) :=
  (graphTarget n a0 0 (↑k0 : Int)).bind fun v1 =>
  bif (!decide ((decide (0 ≤ v1)) = (decide ((↑k0 : Int) ≤ a1)))) then
    some (.ret false)
  else
    some (.nxt ())

def lexrulePlaces_a0 (t0 : Unit) : Option (Bool) :=
  some true

def lexrulePlaces (n : Nat) (a0 : ApiGraph) (a1 : Int) : Option (Bool) :=
  thenM (rangeM (lexrulePlaces_b0 n a0 a1) 4 ()) (lexrulePlaces_a0)

def termValidate11 (a0 : Int) (b0_0 : Int) : Option (ApiFault) :=
  some (ApiFault.mk a0 b0_0)

def simpleValidate1_b0 (self : (ApiSimple) → (Int) → (Int) → Option (Int × Int)) (a0 : ApiSimple) (a1 : Int) (k0 : Nat) (s0 : Int) : Option (Ctl (Int × Int) (Int) (Int)) :=
  (self (get a0.args k0) (wr .i64 (a1 + 1)) s0).bind fun v2 =>
  bif (!decide (v2.1 = 0)) then
    some (.ret (v2.1, v2.2))
  else
    some (.nxt v2.2)

def simpleValidate1_a0 (t0 : Int) : Option (Int × Int) :=
  some (0, t0)

def simpleValidate1 : Nat → (ApiSimple) → (Int) → (Int) → Option (Int × Int)
  | 0, _, _, _ => none
  | n + 1, a0, a1, b0_0 =>
    bif (bif (decide (200 < (wr .i64 (b0_0 + 1)))) then true else (decide (40 < a1))) then
      some (1, (wr .i64 (b0_0 + 1)))
    else
      bif (!(bif (bif (bif (decide (a0.base = [101])) then true else (decide (a0.base = [116]))) then (decide ((↑a0.args.length : Int) = 0)) else false) then true else (bif (decide (a0.base = [])) then (decide ((↑a0.args.length : Int) = 2)) else false))) then
        some (5, (wr .i64 (b0_0 + 1)))
      else
        thenM (rangeM (simpleValidate1_b0 (simpleValidate1 n) a0 a1) a0.args.length (wr .i64 (b0_0 + 1))) (simpleValidate1_a0)

end Go.Proofs.YtaohdfpcdfbnlaaDoor

namespace Go.Proofs.YtaohdfpcdfbnlaaDoor
open Go Go.Am

def simpleValidate (n : Nat) (a0 : ApiSimple) : Option (ApiFault) :=
  (simpleValidate1 n a0 1 0).bind fun v1 =>
  some (ApiFault.mk v1.1 0)

def termNone (a0 : ApiSimple) : Option (Bool) :=
  some (bif (decide (a0.base = [])) then (decide ((↑a0.args.length : Int) = 0)) else false)

def termValidate1 : Nat → (ApiTerm) → (Int) → (Int) → (Int) → Option (ApiFault × Int)
  | 0, _, _, _, _ => none
  | n + 1, a0, a1, a2, b0_0 =>
    bif (bif (decide (200 < (wr .i64 (b0_0 + 1)))) then true else (decide (40 < a1))) then
      (termValidate11 1 b0_0).bind fun v1 =>
      some (v1, (wr .i64 (b0_0 + 1)))
    else
      bif (decide (a0.kind = 1)) then
        bif (bif (!decide (a0.index = 0)) then true else (!decide ((↑a0.args.length : Int) = 0))) then
          (termValidate11 5 b0_0).bind fun v2 =>
          some (v2, (wr .i64 (b0_0 + 1)))
        else
          (termName a0.name).bind fun v3 =>
          bif (!v3) then
            (termValidate11 10 b0_0).bind fun v4 =>
            some (v4, (wr .i64 (b0_0 + 1)))
          else
            (simpleValidate n a0.type).bind fun v5 =>
            bif (!decide (v5.code = 0)) then
              (termValidate11 12 b0_0).bind fun v6 =>
              some (v6, (wr .i64 (b0_0 + 1)))
            else
              some ((ApiFault.mk 0 0), (wr .i64 (b0_0 + 1)))
      else
        bif (decide (a0.kind = 2)) then
          (gd (!(!decide (a0.name = []))) (termNone a0.type) default).bind fun v7 =>
          bif (bif (bif (!decide (a0.name = [])) then true else (!v7)) then true else (!decide ((↑a0.args.length : Int) = 0))) then
            (termValidate11 5 b0_0).bind fun v8 =>
            some (v8, (wr .i64 (b0_0 + 1)))
          else
            bif (bif (decide (a0.index < 0)) then true else (decide (a2 ≤ a0.index))) then
              (termValidate11 15 b0_0).bind fun v9 =>
              some (v9, (wr .i64 (b0_0 + 1)))
            else
              some ((ApiFault.mk 0 0), (wr .i64 (b0_0 + 1)))
        else
          bif (decide (a0.kind = 3)) then
            bif (bif (bif (!decide (a0.name = [])) then true else (!decide (a0.index = 0))) then true else (!decide ((↑a0.args.length : Int) = 1))) then
              (termValidate11 5 b0_0).bind fun v10 =>
              some (v10, (wr .i64 (b0_0 + 1)))
            else
              (simpleValidate n a0.type).bind fun v11 =>
              bif (!decide (v11.code = 0)) then
                (termValidate11 12 b0_0).bind fun v12 =>
                some (v12, (wr .i64 (b0_0 + 1)))
              else
                chk (0 < (↑a0.args.length : Int)) <|
                (termValidate1 n (get a0.args 0) (wr .i64 (a1 + 1)) (wr .i64 (a2 + 1)) (wr .i64 (b0_0 + 1))).bind fun v14 =>
                some (v14.1, v14.2)
          else
            bif (decide (a0.kind = 4)) then
              (gd (!(bif (!decide (a0.name = [])) then true else (!decide (a0.index = 0)))) (termNone a0.type) default).bind fun v15 =>
              bif (bif (bif (bif (!decide (a0.name = [])) then true else (!decide (a0.index = 0))) then true else (!v15)) then true else (!decide ((↑a0.args.length : Int) = 2))) then
                (termValidate11 5 b0_0).bind fun v16 =>
                some (v16, (wr .i64 (b0_0 + 1)))
              else
                chk (0 < (↑a0.args.length : Int)) <|
                (termValidate1 n (get a0.args 0) (wr .i64 (a1 + 1)) a2 (wr .i64 (b0_0 + 1))).bind fun v18 =>
                bif (!decide (v18.1.code = 0)) then
                  some (v18.1, v18.2)
                else
                  chk (1 < (↑a0.args.length : Int)) <|
                  (termValidate1 n (get a0.args 1) (wr .i64 (a1 + 1)) a2 v18.2).bind fun v20 =>
                  some (v20.1, v20.2)
            else
              (termValidate11 4 b0_0).bind fun v21 =>
              some (v21, (wr .i64 (b0_0 + 1)))

end Go.Proofs.YtaohdfpcdfbnlaaDoor

namespace Go.Proofs.YtaohdfpcdfbnlaaDoor
open Go Go.Am

def simpleSame_b0 (self : (ApiSimple) → (ApiSimple) → Option (Bool)) (a1 : ApiSimple) (a0 : ApiSimple) (k0 : Nat) (s0 : Unit) : Option (Ctl (Bool) (Unit) (Unit)) :=
  chk ((↑k0 : Int) < (↑a1.args.length : Int)) <|
  (self (get a0.args k0) (get a1.args k0)).bind fun v3 =>
  bif (!v3) then
    some (.ret false)
  else
    some (.nxt ())

def simpleSame_a0 (t0 : Unit) : Option (Bool) :=
  some true

def simpleSame : Nat → (ApiSimple) → (ApiSimple) → Option (Bool)
  | 0, _, _ => none
  | n + 1, a0, a1 =>
    bif (bif (!decide (a0.base = a1.base)) then true else (!decide ((↑a0.args.length : Int) = (↑a1.args.length : Int)))) then
      some false
    else
      chk (a0.args.length ≤ 9223372036854775807) <|
      thenM (rangeM (simpleSame_b0 (simpleSame n) a1 a0) a0.args.length ()) (simpleSame_a0)

def termTyped_2 : Nat → (ApiTerm) → ((List ApiSimple)) → Option (ApiSimple × Bool)
  | 0, _, _ => none
  | n + 1, a0, l0 =>
    bif (decide (a0.kind = 1)) then
      some (a0.type, true)
    else
      bif (decide (a0.kind = 2)) then
        chk (0 ≤ (wr .i64 ((wr .i64 ((↑l0.length : Int) - 1)) - a0.index)) ∧ (wr .i64 ((wr .i64 ((↑l0.length : Int) - 1)) - a0.index)) < (↑l0.length : Int)) <|
        some ((get l0 ((wr .i64 ((wr .i64 ((↑l0.length : Int) - 1)) - a0.index)).toNat)), true)
      else
        bif (decide (a0.kind = 3)) then
          chk (0 ≤ (↑l0.length : Int) ∧ 0 ≤ (↑l0.length : Int)) <|
          letM (l0 ++ [a0.type]) fun c8 =>
          chk (c8.length * 40 ≤ top ∧ c8.length ≤ top) <|
          chk (0 < (↑a0.args.length : Int)) <|
          (termTyped_2 n (get a0.args 0) c8).bind fun v14 =>
          some ((ApiSimple.mk [] [a0.type, v14.1]), v14.2)
        else
          chk (0 < (↑a0.args.length : Int)) <|
          (termTyped_2 n (get a0.args 0) l0).bind fun v17 =>
          chk (1 < (↑a0.args.length : Int)) <|
          (termTyped_2 n (get a0.args 1) l0).bind fun v19 =>
          chk (gImp (!(bif (bif (!v17.2) then true else (!v19.2)) then true else (!decide ((↑v17.1.args.length : Int) = 2)))) (0 < (↑v17.1.args.length : Int))) <|
          (gd (!(bif (bif (!v17.2) then true else (!v19.2)) then true else (!decide ((↑v17.1.args.length : Int) = 2)))) (simpleSame n (get v17.1.args 0) v19.1) default).bind fun v22 =>
          bif (bif (bif (bif (!v17.2) then true else (!v19.2)) then true else (!decide ((↑v17.1.args.length : Int) = 2))) then true else (!v22)) then
            some ((ApiSimple.mk [] []), false)
          else
            chk (1 < (↑v17.1.args.length : Int)) <|
            some ((get v17.1.args 1), true)

def termTyped : Nat → (ApiTerm) → ((List ApiSimple)) → Option (ApiSimple × Bool)
  | 0, _, _ => none
  | n + 1, a0, a1 =>
    bif (decide (a0.kind = 1)) then
      some (a0.type, true)
    else
      bif (decide (a0.kind = 2)) then
        chk (0 ≤ (wr .i64 ((wr .i64 ((↑a1.length : Int) - 1)) - a0.index)) ∧ (wr .i64 ((wr .i64 ((↑a1.length : Int) - 1)) - a0.index)) < (↑a1.length : Int)) <|
        some ((get a1 ((wr .i64 ((wr .i64 ((↑a1.length : Int) - 1)) - a0.index)).toNat)), true)
      else
        bif (decide (a0.kind = 3)) then
          chk (0 ≤ (↑a1.length : Int) ∧ 0 ≤ (↑a1.length : Int)) <|
          letM (a1 ++ [a0.type]) fun c6 =>
          chk (c6.length * 40 ≤ top ∧ c6.length ≤ top) <|
          chk (0 < (↑a0.args.length : Int)) <|
          (termTyped_2 n (get a0.args 0) c6).bind fun v12 =>
          some ((ApiSimple.mk [] [a0.type, v12.1]), v12.2)
        else
          chk (0 < (↑a0.args.length : Int)) <|
          (termTyped n (get a0.args 0) a1).bind fun v15 =>
          chk (1 < (↑a0.args.length : Int)) <|
          (termTyped n (get a0.args 1) a1).bind fun v17 =>
          chk (gImp (!(bif (bif (!v15.2) then true else (!v17.2)) then true else (!decide ((↑v15.1.args.length : Int) = 2)))) (0 < (↑v15.1.args.length : Int))) <|
          (gd (!(bif (bif (!v15.2) then true else (!v17.2)) then true else (!decide ((↑v15.1.args.length : Int) = 2)))) (simpleSame n (get v15.1.args 0) v17.1) default).bind fun v20 =>
          bif (bif (bif (bif (!v15.2) then true else (!v17.2)) then true else (!decide ((↑v15.1.args.length : Int) = 2))) then true else (!v20)) then
            some ((ApiSimple.mk [] []), false)
          else
            chk (1 < (↑v15.1.args.length : Int)) <|
            some ((get v15.1.args 1), true)

def termValidate (n : Nat) (a0 : ApiTerm) : Option (ApiFault) :=
  (termValidate1 n a0 1 0 0).bind fun v1 =>
  bif (!decide (v1.1.code = 0)) then
    some v1.1
  else
    (termTyped n a0 []).bind fun v2 =>
    bif (!v2.2) then
      some (ApiFault.mk 12 (-1))
    else
      some (ApiFault.mk 0 0)

def grammarRule (n : Nat) (a0 : ApiHierarchy) (a1 : HierarchyTable) (a2 : ApiRule) : Option (Int) :=
  bif (bif (bif (bif (decide (a2.kids < 1)) then true else (decide (3 < a2.kids))) then true else (decide (a2.weight < 0))) then true else (decide (1000000 < a2.weight))) then
    some 3
  else
    (graphWithin n a0 a1 a2.graph).bind fun v1 =>
    bif (!decide (v1.code = 0)) then
      some v1.code
    else
      (lexrulePlaces n a2.graph a2.kids).bind fun v2 =>
      bif (!v2) then
        some 5
      else
        (termValidate n a2.meaning).bind fun v3 =>
        some v3.code

end Go.Proofs.YtaohdfpcdfbnlaaDoor

namespace Go.Proofs.YtaohdfpcdfbnlaaDoor
open Go Go.Am

def unicodeUtf8RuneCountInString_b0 (a0 : Bs) (s0 : Nat × Int) : Option (Ctl (Int) (Nat × Int) (Int)) :=
  bif (decide (s0.1 < a0.length)) then
    some (.nxt ((s0.1 + runeW a0 s0.1), (wr .i64 (s0.2 + 1))))
  else
    some (.brk s0.2)

def unicodeUtf8RuneCountInString_a0 (t0 : Int) : Option (Int) :=
  some t0

def unicodeUtf8RuneCountInString (n : Nat) (a0 : Bs) : Option (Int) :=
  thenM (loopM (unicodeUtf8RuneCountInString_b0 a0) n (0, 0)) (unicodeUtf8RuneCountInString_a0)

def unicodeUtf8WordString (a0 : Bs) : Option (Int) :=
  bif false then
    chk (0 < (↑a0.length : Int)) <|
    chk (1 < (↑a0.length : Int)) <|
    chk (2 < (↑a0.length : Int)) <|
    chk (3 < (↑a0.length : Int)) <|
    some (bitop .or .u64 (bitop .or .u64 (bitop .or .u64 (wr .u64 (byteAt a0 0)) (wr .u64 ((wr .u64 (byteAt a0 1)) * 2 ^ (min 8 64)))) (wr .u64 ((wr .u64 (byteAt a0 2)) * 2 ^ (min 16 64)))) (wr .u64 ((wr .u64 (byteAt a0 3)) * 2 ^ (min 24 64))))
  else
    chk (0 < (↑a0.length : Int)) <|
    chk (1 < (↑a0.length : Int)) <|
    chk (2 < (↑a0.length : Int)) <|
    chk (3 < (↑a0.length : Int)) <|
    chk (4 < (↑a0.length : Int)) <|
    chk (5 < (↑a0.length : Int)) <|
    chk (6 < (↑a0.length : Int)) <|
    chk (7 < (↑a0.length : Int)) <|
    some (bitop .or .u64 (bitop .or .u64 (bitop .or .u64 (bitop .or .u64 (bitop .or .u64 (bitop .or .u64 (bitop .or .u64 (wr .u64 (byteAt a0 0)) (wr .u64 ((wr .u64 (byteAt a0 1)) * 2 ^ (min 8 64)))) (wr .u64 ((wr .u64 (byteAt a0 2)) * 2 ^ (min 16 64)))) (wr .u64 ((wr .u64 (byteAt a0 3)) * 2 ^ (min 24 64)))) (wr .u64 ((wr .u64 (byteAt a0 4)) * 2 ^ (min 32 64)))) (wr .u64 ((wr .u64 (byteAt a0 5)) * 2 ^ (min 40 64)))) (wr .u64 ((wr .u64 (byteAt a0 6)) * 2 ^ (min 48 64)))) (wr .u64 ((wr .u64 (byteAt a0 7)) * 2 ^ (min 56 64))))

def unicodeUtf8ValidString_j3 (j3 : Bs) : Option (Ctl (Bool) (Bs) (Unit)) :=
  some (.nxt j3)

def unicodeUtf8ValidString_b4 (s4 : Bs) : Option (Ctl (Ctl (Bool) (Bs) (Unit)) (Bs) (Bs)) :=
  (gd (decide (32 < (↑s4.length : Int))) (unicodeUtf8WordString s4) default).bind fun v100 =>
  chk (gImp (decide (32 < (↑s4.length : Int))) (8 ≤ s4.length)) <|
  (gd (decide (32 < (↑s4.length : Int))) (unicodeUtf8WordString (s4.drop 8)) default).bind fun v103 =>
  chk (gImp (decide (32 < (↑s4.length : Int))) (16 ≤ s4.length)) <|
  (gd (decide (32 < (↑s4.length : Int))) (unicodeUtf8WordString (s4.drop 16)) default).bind fun v106 =>
  chk (gImp (decide (32 < (↑s4.length : Int))) (0 ≤ 24) ∧ gImp (decide (32 < (↑s4.length : Int))) (24 ≤ s4.length)) <|
  (gd (decide (32 < (↑s4.length : Int))) (unicodeUtf8WordString (s4.drop 24)) default).bind fun v110 =>
  bif (bif (decide (32 < (↑s4.length : Int))) then (decide ((bitop .and .u64 (bitop .or .u64 (bitop .or .u64 v100 v103) (bitop .or .u64 v106 v110)) 9259542123273814144) = 0)) else false) then
    chk (0 ≤ 32 ∧ 32 ≤ s4.length) <|
    some (.nxt (s4.drop 32))
  else
    some (.brk s4)

def unicodeUtf8ValidString_a4 (t4 : Bs) : Option (Ctl (Bool) (Bs) (Unit)) :=
  unicodeUtf8ValidString_j3 t4

def unicodeUtf8ValidString_b0 (n : Nat) (s0 : Bs) : Option (Ctl (Bool) (Bs) (Unit)) :=
  bif (decide (0 < (↑s0.length : Int))) then
    chk (0 < (↑s0.length : Int)) <|
    bif (decide ((byteAt s0 0) < 128)) then
      chk (0 ≤ 1 ∧ 1 ≤ s0.length) <|
      (gd (decide (8 < (↑((s0.drop 1).length) : Int))) (unicodeUtf8WordString (s0.drop 1)) default).bind fun v78 =>
      bif (bif (decide (8 < (↑((s0.drop 1).length) : Int))) then (decide ((bitop .and .u64 v78 9259542123273814144) = 0)) else false) then
        chk (0 ≤ 8 ∧ 8 ≤ (s0.drop 1).length) <|
        (gd (decide (16 < (↑(((s0.drop 1).drop 8).length) : Int))) (unicodeUtf8WordString ((s0.drop 1).drop 8)) default).bind fun v81 =>
        chk (gImp (decide (16 < (↑(((s0.drop 1).drop 8).length) : Int))) (8 ≤ ((s0.drop 1).drop 8).length)) <|
        (gd (decide (16 < (↑(((s0.drop 1).drop 8).length) : Int))) (unicodeUtf8WordString (((s0.drop 1).drop 8).drop 8)) default).bind fun v84 =>
        bif (bif (decide (16 < (↑(((s0.drop 1).drop 8).length) : Int))) then (decide ((bitop .and .u64 (bitop .or .u64 v81 v84) 9259542123273814144) = 0)) else false) then
          chk (0 ≤ 16 ∧ 16 ≤ ((s0.drop 1).drop 8).length) <|
          thenM (loopM (unicodeUtf8ValidString_b4) n (((s0.drop 1).drop 8).drop 16)) (unicodeUtf8ValidString_a4)
        else
          unicodeUtf8ValidString_j3 ((s0.drop 1).drop 8)
      else
        unicodeUtf8ValidString_j3 (s0.drop 1)
    else
      chk (0 ≤ (byteAt s0 0) ∧ (byteAt s0 0) < 256) <|
      chk (0 ≤ (Int.fdiv (get tab1 ((byteAt s0 0).toNat)) (2 ^ (min 4 8))) ∧ (Int.fdiv (get tab1 ((byteAt s0 0).toNat)) (2 ^ (min 4 8))) < 16) <|
      bif (decide ((wr .i64 (bitop .and .u8 (get tab1 ((byteAt s0 0).toNat)) 7)) = 2)) then
        chk (gImp (!(decide ((↑s0.length : Int) < 2))) (1 < (↑s0.length : Int))) <|
        chk (gImp (!(bif (decide ((↑s0.length : Int) < 2)) then true else (decide ((byteAt s0 1) < ((get tab2 ((Int.fdiv (get tab1 ((byteAt s0 0).toNat)) (2 ^ (min 4 8))).toNat)).lo))))) (1 < (↑s0.length : Int))) <|
        bif (bif (bif (decide ((↑s0.length : Int) < 2)) then true else (decide ((byteAt s0 1) < ((get tab2 ((Int.fdiv (get tab1 ((byteAt s0 0).toNat)) (2 ^ (min 4 8))).toNat)).lo)))) then true else (decide (((get tab2 ((Int.fdiv (get tab1 ((byteAt s0 0).toNat)) (2 ^ (min 4 8))).toNat)).hi) < (byteAt s0 1)))) then
          some (.ret false)
        else
          chk (0 ≤ 2 ∧ 2 ≤ s0.length) <|
          some (.nxt (s0.drop 2))
      else
        bif (decide ((wr .i64 (bitop .and .u8 (get tab1 ((byteAt s0 0).toNat)) 7)) = 3)) then
          chk (gImp (!(decide ((↑s0.length : Int) < 3))) (1 < (↑s0.length : Int))) <|
          chk (gImp (!(bif (decide ((↑s0.length : Int) < 3)) then true else (decide ((byteAt s0 1) < ((get tab2 ((Int.fdiv (get tab1 ((byteAt s0 0).toNat)) (2 ^ (min 4 8))).toNat)).lo))))) (1 < (↑s0.length : Int))) <|
          chk (gImp (!(bif (bif (decide ((↑s0.length : Int) < 3)) then true else (decide ((byteAt s0 1) < ((get tab2 ((Int.fdiv (get tab1 ((byteAt s0 0).toNat)) (2 ^ (min 4 8))).toNat)).lo)))) then true else (decide (((get tab2 ((Int.fdiv (get tab1 ((byteAt s0 0).toNat)) (2 ^ (min 4 8))).toNat)).hi) < (byteAt s0 1))))) (2 < (↑s0.length : Int))) <|
          chk (gImp (!(bif (bif (bif (decide ((↑s0.length : Int) < 3)) then true else (decide ((byteAt s0 1) < ((get tab2 ((Int.fdiv (get tab1 ((byteAt s0 0).toNat)) (2 ^ (min 4 8))).toNat)).lo)))) then true else (decide (((get tab2 ((Int.fdiv (get tab1 ((byteAt s0 0).toNat)) (2 ^ (min 4 8))).toNat)).hi) < (byteAt s0 1)))) then true else (decide ((byteAt s0 2) < 128)))) (2 < (↑s0.length : Int))) <|
          bif (bif (bif (bif (bif (decide ((↑s0.length : Int) < 3)) then true else (decide ((byteAt s0 1) < ((get tab2 ((Int.fdiv (get tab1 ((byteAt s0 0).toNat)) (2 ^ (min 4 8))).toNat)).lo)))) then true else (decide (((get tab2 ((Int.fdiv (get tab1 ((byteAt s0 0).toNat)) (2 ^ (min 4 8))).toNat)).hi) < (byteAt s0 1)))) then true else (decide ((byteAt s0 2) < 128))) then true else (decide (191 < (byteAt s0 2)))) then
            some (.ret false)
          else
            chk (0 ≤ 3 ∧ 3 ≤ s0.length) <|
            some (.nxt (s0.drop 3))
        else
          bif (decide ((wr .i64 (bitop .and .u8 (get tab1 ((byteAt s0 0).toNat)) 7)) = 4)) then
            chk (gImp (!(decide ((↑s0.length : Int) < 4))) (1 < (↑s0.length : Int))) <|
            chk (gImp (!(bif (decide ((↑s0.length : Int) < 4)) then true else (decide ((byteAt s0 1) < ((get tab2 ((Int.fdiv (get tab1 ((byteAt s0 0).toNat)) (2 ^ (min 4 8))).toNat)).lo))))) (1 < (↑s0.length : Int))) <|
            chk (gImp (!(bif (bif (decide ((↑s0.length : Int) < 4)) then true else (decide ((byteAt s0 1) < ((get tab2 ((Int.fdiv (get tab1 ((byteAt s0 0).toNat)) (2 ^ (min 4 8))).toNat)).lo)))) then true else (decide (((get tab2 ((Int.fdiv (get tab1 ((byteAt s0 0).toNat)) (2 ^ (min 4 8))).toNat)).hi) < (byteAt s0 1))))) (2 < (↑s0.length : Int))) <|
            chk (gImp (!(bif (bif (bif (decide ((↑s0.length : Int) < 4)) then true else (decide ((byteAt s0 1) < ((get tab2 ((Int.fdiv (get tab1 ((byteAt s0 0).toNat)) (2 ^ (min 4 8))).toNat)).lo)))) then true else (decide (((get tab2 ((Int.fdiv (get tab1 ((byteAt s0 0).toNat)) (2 ^ (min 4 8))).toNat)).hi) < (byteAt s0 1)))) then true else (decide ((byteAt s0 2) < 128)))) (2 < (↑s0.length : Int))) <|
            chk (gImp (!(bif (bif (bif (bif (decide ((↑s0.length : Int) < 4)) then true else (decide ((byteAt s0 1) < ((get tab2 ((Int.fdiv (get tab1 ((byteAt s0 0).toNat)) (2 ^ (min 4 8))).toNat)).lo)))) then true else (decide (((get tab2 ((Int.fdiv (get tab1 ((byteAt s0 0).toNat)) (2 ^ (min 4 8))).toNat)).hi) < (byteAt s0 1)))) then true else (decide ((byteAt s0 2) < 128))) then true else (decide (191 < (byteAt s0 2))))) (3 < (↑s0.length : Int))) <|
            chk (gImp (!(bif (bif (bif (bif (bif (decide ((↑s0.length : Int) < 4)) then true else (decide ((byteAt s0 1) < ((get tab2 ((Int.fdiv (get tab1 ((byteAt s0 0).toNat)) (2 ^ (min 4 8))).toNat)).lo)))) then true else (decide (((get tab2 ((Int.fdiv (get tab1 ((byteAt s0 0).toNat)) (2 ^ (min 4 8))).toNat)).hi) < (byteAt s0 1)))) then true else (decide ((byteAt s0 2) < 128))) then true else (decide (191 < (byteAt s0 2)))) then true else (decide ((byteAt s0 3) < 128)))) (3 < (↑s0.length : Int))) <|
            bif (bif (bif (bif (bif (bif (bif (decide ((↑s0.length : Int) < 4)) then true else (decide ((byteAt s0 1) < ((get tab2 ((Int.fdiv (get tab1 ((byteAt s0 0).toNat)) (2 ^ (min 4 8))).toNat)).lo)))) then true else (decide (((get tab2 ((Int.fdiv (get tab1 ((byteAt s0 0).toNat)) (2 ^ (min 4 8))).toNat)).hi) < (byteAt s0 1)))) then true else (decide ((byteAt s0 2) < 128))) then true else (decide (191 < (byteAt s0 2)))) then true else (decide ((byteAt s0 3) < 128))) then true else (decide (191 < (byteAt s0 3)))) then
              some (.ret false)
            else
              chk (0 ≤ 4 ∧ 4 ≤ s0.length) <|
              some (.nxt (s0.drop 4))
          else
            some (.ret false)
  else
    some (.brk ())

def unicodeUtf8ValidString_a0 (t0 : Unit) : Option (Bool) :=
  some true

def unicodeUtf8ValidString (n : Nat) (a0 : Bs) : Option (Bool) :=
  thenM (loopM (unicodeUtf8ValidString_b0 n) n a0) (unicodeUtf8ValidString_a0)

def stringsIndexByte (a0 : Bs) (a1 : Int) : Option (Int) :=
  (indexByte a0 a1).bind fun v1 =>
  some v1

def unicodeUtf8ValidRune (a0 : Int) : Option (Bool) :=
  bif (bif (decide (0 ≤ a0)) then (decide (a0 < 55296)) else false) then
    some true
  else
    bif (bif (decide (57343 < a0)) then (decide (a0 ≤ 1114111)) else false) then
      some true
    else
      some false

def stringsIndexRune_b0 (a0 : Bs) (s0 : Nat) : Option (Ctl (Int) (Nat) (Unit)) :=
  bif (decide (s0 < a0.length)) then
    chk (s0 < a0.length) <|
    bif (decide ((rune a0 s0) = 65533)) then
      some (.ret (↑s0 : Int))
    else
      some (.nxt (s0 + runeW a0 s0))
  else
    some (.brk ())

def stringsIndexRune_a0 (t0 : Unit) : Option (Int) :=
  some (-1)

def stringsIndexRune_b3 (a1 : Int) (j2 : Int) (a0 : Bs) (s3 : Int) : Option (Ctl (Ctl (Int) (Unit) (Unit)) (Int) (Unit)) :=
  bif (decide (s3 < (↑((runeStr a1).length) : Int))) then
    chk (0 ≤ (wr .i64 (j2 - s3)) ∧ (wr .i64 (j2 - s3)) < (↑a0.length : Int)) <|
    chk (0 ≤ (wr .i64 ((wr .i64 ((↑((runeStr a1).length) : Int) - 1)) - s3)) ∧ (wr .i64 ((wr .i64 ((↑((runeStr a1).length) : Int) - 1)) - s3)) < (↑((runeStr a1).length) : Int)) <|
    bif (!decide ((byteAt a0 (wr .i64 (j2 - s3))) = (byteAt (runeStr a1) (wr .i64 ((wr .i64 ((↑((runeStr a1).length) : Int) - 1)) - s3))))) then
      none
    else
      some (.nxt (wr .i64 (s3 + 1)))
  else
    some (.brk ())

def stringsIndexRune_a3 (j2 : Int) (a1 : Int) (t3 : Unit) : Option (Ctl (Int) (Unit) (Unit)) :=
  some (.ret (wr .i64 (j2 - (wr .i64 ((↑((runeStr a1).length) : Int) - 1)))))

def stringsIndexRune_j2 (n : Nat) (a1 : Int) (a0 : Bs) (j2 : Int) : Option (Ctl (Int) (Unit) (Unit)) :=
  thenM (loopM (stringsIndexRune_b3 a1 j2 a0) n 1) (stringsIndexRune_a3 j2 a1)

def stringsIndexRune_b1 (n : Nat) (a1 : Int) (a0 : Bs) (s1 : Unit) : Option (Ctl (Int) (Unit) (Unit)) :=
  bif (decide ((wr .i64 ((↑((runeStr a1).length) : Int) - 1)) < (↑a0.length : Int))) then
    chk (0 ≤ (wr .i64 ((↑((runeStr a1).length) : Int) - 1)) ∧ (wr .i64 ((↑((runeStr a1).length) : Int) - 1)) < (↑a0.length : Int)) <|
    chk ((wr .i64 ((↑((runeStr a1).length) : Int) - 1)) < (↑((runeStr a1).length) : Int)) <|
    bif (!decide ((byteAt a0 (wr .i64 ((↑((runeStr a1).length) : Int) - 1))) = (byteAt (runeStr a1) (wr .i64 ((↑((runeStr a1).length) : Int) - 1))))) then
      chk (0 ≤ (wr .i64 ((wr .i64 ((↑((runeStr a1).length) : Int) - 1)) + 1)) ∧ (wr .i64 ((wr .i64 ((↑((runeStr a1).length) : Int) - 1)) + 1)).toNat ≤ a0.length) <|
      (stringsIndexByte (a0.drop ((wr .i64 ((wr .i64 ((↑((runeStr a1).length) : Int) - 1)) + 1)).toNat)) (byteAt (runeStr a1) (wr .i64 ((↑((runeStr a1).length) : Int) - 1)))).bind fun v10 =>
      bif (decide (v10 < 0)) then
        some (.ret (-1))
      else
        stringsIndexRune_j2 n a1 a0 (wr .i64 ((wr .i64 ((↑((runeStr a1).length) : Int) - 1)) + (wr .i64 (v10 + 1))))
    else
      stringsIndexRune_j2 n a1 a0 (wr .i64 ((↑((runeStr a1).length) : Int) - 1))
  else
    some (.brk ())

def stringsIndexRune_a1 (t1 : Unit) : Option (Int) :=
  some (-1)

def stringsIndexRune (n : Nat) (a0 : Bs) (a1 : Int) : Option (Int) :=
  bif (bif (decide (0 ≤ a1)) then (decide (a1 < 128)) else false) then
    (stringsIndexByte a0 (wr .u8 a1)).bind fun v1 =>
    some v1
  else
    bif (decide (a1 = 65533)) then
      thenM (loopM (stringsIndexRune_b0 a0) n 0) (stringsIndexRune_a0)
    else
      (unicodeUtf8ValidRune a1).bind fun v4 =>
      bif (!v4) then
        some (-1)
      else
        thenM (loopM (stringsIndexRune_b1 n a1 a0) n ()) (stringsIndexRune_a1)

end Go.Proofs.YtaohdfpcdfbnlaaDoor

namespace Go.Proofs.YtaohdfpcdfbnlaaDoor
open Go Go.Am

def stringsShouldUseASCIISet (a0 : Int) : Option (Bool) :=
  some (decide (8 < a0))

def stringsIndexAnyS_j0 (n : Nat) (a0 : Bs) (j0 : Int) : Option (Int) :=
  (stringsIndexRune n a0 j0).bind fun v2 =>
  some v2

def stringsIndexAnyS_b2 (n : Nat) (a0 : Bs) (a1 : Bs) (s2 : Nat) : Option (Ctl (Int) (Nat) (Unit)) :=
  bif (decide (s2 < a0.length)) then
    chk (s2 < a0.length) <|
    (stringsIndexRune n a1 (rune a0 s2)).bind fun v7 =>
    bif (decide (0 ≤ v7)) then
      some (.ret (↑s2 : Int))
    else
      some (.nxt (s2 + runeW a0 s2))
  else
    some (.brk ())

def stringsIndexAnyS_a2 (t2 : Unit) : Option (Int) :=
  some (-1)

def stringsIndexAnyS_j1 (n : Nat) (a0 : Bs) (a1 : Bs) (j1 : Unit) : Option (Int) :=
  thenM (loopM (stringsIndexAnyS_b2 n a0 a1) n 0) (stringsIndexAnyS_a2)

def stringsIndexAnyS (n : Nat) (a0 : Bs) (a1 : Bs) : Option (Int) :=
  bif (decide (a1 = [])) then
    some (-1)
  else
    bif (decide ((↑a1.length : Int) = 1)) then
      chk (0 < (↑a1.length : Int)) <|
      bif (decide (128 ≤ (wr .i32 (byteAt a1 0)))) then
        stringsIndexAnyS_j0 n a0 65533
      else
        stringsIndexAnyS_j0 n a0 (wr .i32 (byteAt a1 0))
    else
      (stringsShouldUseASCIISet (↑a0.length : Int)).bind fun v3 =>
      bif v3 then
        none
      else
        stringsIndexAnyS_j1 n a0 a1 ()

def stringsIndexAny (n : Nat) (a0 : Bs) (a1 : Bs) : Option (Int) :=
  bif decide (8 < a0.length) then chk (2 ≤ a1.length ∧ a0.length < 4294967281 ∧ a1.length < 4294967281 ∧ a1.all (fun b => decide (b.toNat < 128)) = true) (some (Lib.indexAny a0 a1))
  else stringsIndexAnyS n a0 a1

def stringsContainsAny (n : Nat) (a0 : Bs) (a1 : Bs) : Option (Bool) :=
  (stringsIndexAny n a0 a1).bind fun v1 =>
  some (decide (0 ≤ v1))

def lexruleWord (n : Nat) (a0 : Bs) : Option (Bool) :=
  (unicodeUtf8RuneCountInString n a0).bind fun v1 =>
  (gd (bif (decide (1 ≤ v1)) then (decide (v1 ≤ 30)) else false) (unicodeUtf8ValidString n a0) default).bind fun v2 =>
  (gd (bif (bif (decide (1 ≤ v1)) then (decide (v1 ≤ 30)) else false) then v2 else false) (stringsContainsAny n a0 [32, 9, 10, 40, 41, 91, 93, 44, 59]) default).bind fun v3 =>
  some (bif (bif (bif (decide (1 ≤ v1)) then (decide (v1 ≤ 30)) else false) then v2 else false) then (!v3) else false)

def lexruleEntry (n : Nat) (a0 : ApiHierarchy) (a1 : HierarchyTable) (a2 : ApiLex) : Option (Int) :=
  (lexruleWord n a2.word).bind fun v1 =>
  bif (!v1) then
    some 10
  else
    bif (bif (decide (a2.weight < 0)) then true else (decide (1000000 < a2.weight))) then
      some 3
    else
      (graphWithin n a0 a1 a2.graph).bind fun v2 =>
      bif (!decide (v2.code = 0)) then
        some v2.code
      else
        (termValidate n a2.meaning).bind fun v3 =>
        some v3.code

def grammarValidate_b0 (n : Nat) (a0 : ApiGrammar) (v4 : HierarchyTable) (k0 : Nat) (s0 : (List (Bs × Int))) : Option (Ctl (ApiFault) ((List (Bs × Int))) ((List (Bs × Int)))) :=
  (termName ((get a0.rules k0).name)).bind fun v12 =>
  bif (!v12) then
    (grammarFault 10 (↑k0 : Int)).bind fun v13 =>
    some (.ret v13)
  else
    bif (assoc ((get a0.rules k0).name) s0).isSome then
      (grammarFault 7 (↑k0 : Int)).bind fun v14 =>
      some (.ret v14)
    else
      letM (assocSet ((get a0.rules k0).name) (↑k0 : Int) s0) fun c15 =>
      (grammarRule n a0.hierarchy v4 (get a0.rules k0)).bind fun v17 =>
      bif (!decide (v17 = 0)) then
        (grammarFault v17 (↑k0 : Int)).bind fun v18 =>
        some (.ret v18)
      else
        some (.nxt c15)

def grammarValidate_b1 (n : Nat) (a0 : ApiGrammar) (v4 : HierarchyTable) (k1 : Nat) (s1 : Unit) : Option (Ctl (ApiFault) (Unit) (Unit)) :=
  (lexruleEntry n a0.hierarchy v4 (get a0.lexes k1)).bind fun v19 =>
  bif (!decide (v19 = 0)) then
    (grammarFault v19 (↑k1 : Int)).bind fun v20 =>
    some (.ret v20)
  else
    some (.nxt ())

def grammarValidate_a1 (n : Nat) (a0 : ApiGrammar) (v4 : HierarchyTable) (t1 : Unit) : Option (ApiFault) :=
  (graphWithin n a0.hierarchy v4 a0.start).bind fun v21 =>
  bif (!decide (v21.code = 0)) then
    (grammarFault v21.code (-1)).bind fun v22 =>
    some v22
  else
    some (ApiFault.mk 0 0)

def grammarValidate_a0 (n : Nat) (a0 : ApiGrammar) (v4 : HierarchyTable) (t0 : (List (Bs × Int))) : Option (ApiFault) :=
  thenM (rangeM (grammarValidate_b1 n a0 v4) a0.lexes.length ()) (grammarValidate_a1 n a0 v4)

def grammarValidate (n : Nat) (a0 : ApiGrammar) : Option (ApiFault) :=
  (hierarchyValidate a0.hierarchy).bind fun v1 =>
  bif (!decide (v1.code = 0)) then
    some v1
  else
    bif (decide ((↑a0.hierarchy.feats.length : Int) ≤ 3)) then
      (grammarFault 9 (-1)).bind fun v2 =>
      some v2
    else
      bif (bif (decide (40 < (↑a0.rules.length : Int))) then true else (decide (100 < (↑a0.lexes.length : Int)))) then
        (grammarFault 2 (-1)).bind fun v3 =>
        some v3
      else
        (hierarchyTables a0.hierarchy.types).bind fun v4 =>
        thenM (rangeM (grammarValidate_b0 n a0 v4) a0.rules.length []) (grammarValidate_a0 n a0 v4)

end Go.Proofs.YtaohdfpcdfbnlaaDoor

namespace Go.Proofs.YtaohdfpcdfbnlaaDoor
open Go Go.Am

def trainFault (a0 : Int) (a1 : Int) : Option (ApiFault) :=
  some (ApiFault.mk a0 a1)

def deriveFault (a0 : Int) (a1 : Int) : Option (ApiFault) :=
  some (ApiFault.mk a0 a1)

def deriveFits1_b2 (self : (ApiTree) → (Int) → (Int) → (Int) → ((List ApiType)) → ((List ApiFeat)) → ((List ApiRule)) → ((List ApiLex)) → ((List ApiNode)) → (Int) → Option (ApiFault × Int × Int)) (a0 : ApiTree) (a1 : Int) (j1 : Int) (b1_0 : (List ApiType)) (b1_1 : (List ApiFeat)) (b1_2 : (List ApiRule)) (b1_3 : (List ApiLex)) (b1_4 : (List ApiNode)) (k2 : Nat) (s2 : Int × Int) : Option (Ctl (ApiFault × Int × Int) (Int × Int) (Int × Int)) :=
  (self (get a0.kids k2) (wr .i64 (a1 + 1)) j1 s2.1 b1_0 b1_1 b1_2 b1_3 b1_4 s2.2).bind fun v9 =>
  bif (!decide (v9.1.code = 0)) then
    some (.ret (v9.1, v9.2.1, v9.2.2))
  else
    some (.nxt (v9.2.1, v9.2.2))

def deriveFits1_a2 (t2 : Int × Int) : Option (ApiFault × Int × Int) :=
  some ((ApiFault.mk 0 0), t2.1, t2.2)

def deriveFits1_j1 (self : (ApiTree) → (Int) → (Int) → (Int) → ((List ApiType)) → ((List ApiFeat)) → ((List ApiRule)) → ((List ApiLex)) → ((List ApiNode)) → (Int) → Option (ApiFault × Int × Int)) (b0_0 : Int) (j0 : Int × Int) (a0 : ApiTree) (a1 : Int) (b1_0 : (List ApiType)) (b1_1 : (List ApiFeat)) (b1_2 : (List ApiRule)) (b1_3 : (List ApiLex)) (b1_4 : (List ApiNode)) (j1 : Int) : Option (ApiFault × Int × Int) :=
  bif (decide (3 < j1)) then
    (deriveFault 14 b0_0).bind fun v7 =>
    some (v7, (wr .i64 (b0_0 + 1)), j0.1)
  else
    thenM (rangeM (deriveFits1_b2 self a0 a1 j1 b1_0 b1_1 b1_2 b1_3 b1_4) a0.kids.length ((wr .i64 (b0_0 + 1)), j0.1)) (deriveFits1_a2)

def deriveFits1_j0 (self : (ApiTree) → (Int) → (Int) → (Int) → ((List ApiType)) → ((List ApiFeat)) → ((List ApiRule)) → ((List ApiLex)) → ((List ApiNode)) → (Int) → Option (ApiFault × Int × Int)) (a0 : ApiTree) (b0_0 : Int) (a1 : Int) (b1_0 : (List ApiType)) (b1_1 : (List ApiFeat)) (b1_2 : (List ApiRule)) (b1_3 : (List ApiLex)) (b1_4 : (List ApiNode)) (a2 : Int) (j0 : Int × Int) : Option (ApiFault × Int × Int) :=
  bif (!decide ((↑a0.kids.length : Int) = j0.2)) then
    (deriveFault 9 b0_0).bind fun v6 =>
    some (v6, (wr .i64 (b0_0 + 1)), j0.1)
  else
    bif (!decide (j0.2 = 1)) then
      deriveFits1_j1 self b0_0 j0 a0 a1 b1_0 b1_1 b1_2 b1_3 b1_4 0
    else
      deriveFits1_j1 self b0_0 j0 a0 a1 b1_0 b1_1 b1_2 b1_3 b1_4 (wr .i64 (a2 + 1))

def deriveFits1 : Nat → (ApiTree) → (Int) → (Int) → (Int) → ((List ApiType)) → ((List ApiFeat)) → ((List ApiRule)) → ((List ApiLex)) → ((List ApiNode)) → (Int) → Option (ApiFault × Int × Int)
  | 0, _, _, _, _, _, _, _, _, _, _ => none
  | n + 1, a0, a1, a2, b0_0, b1_0, b1_1, b1_2, b1_3, b1_4, b2_0 =>
    bif (bif (decide (200 < (wr .i64 (b0_0 + 1)))) then true else (decide (48 < a1))) then
      (deriveFault 1 b0_0).bind fun v1 =>
      some (v1, (wr .i64 (b0_0 + 1)), b2_0)
    else
      bif (bif (bif (decide (a0.rule < (-1))) then true else (decide ((↑b1_2.length : Int) ≤ a0.rule))) then true else (bif (decide (a0.rule = (-1))) then (bif (decide (a0.lex < 0)) then true else (decide ((↑b1_3.length : Int) ≤ a0.lex))) else false)) then
        (deriveFault 3 b0_0).bind fun v2 =>
        some (v2, (wr .i64 (b0_0 + 1)), b2_0)
      else
        bif (bif (decide (0 ≤ a0.rule)) then (!decide (a0.lex = 0)) else false) then
          (deriveFault 5 b0_0).bind fun v3 =>
          some (v3, (wr .i64 (b0_0 + 1)), b2_0)
        else
          bif (decide (0 ≤ a0.rule)) then
            chk (0 ≤ a0.rule ∧ a0.rule < (↑b1_2.length : Int)) <|
            deriveFits1_j0 (deriveFits1 n) a0 b0_0 a1 b1_0 b1_1 b1_2 b1_3 b1_4 a2 (b2_0, (get b1_2 a0.rule.toNat).kids)
          else
            deriveFits1_j0 (deriveFits1 n) a0 b0_0 a1 b1_0 b1_1 b1_2 b1_3 b1_4 a2 ((wr .i64 (b2_0 + 1)), 0)

end Go.Proofs.YtaohdfpcdfbnlaaDoor

namespace Go.Proofs.YtaohdfpcdfbnlaaDoor
open Go Go.Am

def deriveFits (n : Nat) (a0 : ApiGrammar) (a1 : ApiTree) : Option (ApiFault) :=
  (deriveFits1 n a1 1 0 0 a0.hierarchy.types a0.hierarchy.feats a0.rules a0.lexes a0.start.nodes 0).bind fun v1 =>
  bif (!decide (v1.1.code = 0)) then
    some v1.1
  else
    bif (decide (12 < v1.2.2)) then
      (deriveFault 2 (-2)).bind fun v2 =>
      some v2
    else
      some (ApiFault.mk 0 0)

def trainCount1_b1 (self : (ApiTree) → ((List Int)) → ((List Int)) → Option ((List Int) × (List Int))) (a0 : ApiTree) (k1 : Nat) (s1 : (List Int) × (List Int)) : Option (Ctl ((List Int) × (List Int)) ((List Int) × (List Int)) ((List Int) × (List Int))) :=
  (self (get a0.kids k1) s1.1 s1.2).bind fun v20 =>
  some (.nxt (v20.1, v20.2))

def trainCount1_a1 (t1 : (List Int) × (List Int)) : Option ((List Int) × (List Int)) :=
  some (t1.1, t1.2)

def trainCount1_j0 (self : (ApiTree) → ((List Int)) → ((List Int)) → Option ((List Int) × (List Int))) (a0 : ApiTree) (j0 : (List Int) × (List Int)) : Option ((List Int) × (List Int)) :=
  thenM (rangeM (trainCount1_b1 self a0) a0.kids.length (j0.1, j0.2)) (trainCount1_a1)

def trainCount1 : Nat → (ApiTree) → ((List Int)) → ((List Int)) → Option ((List Int) × (List Int))
  | 0, _, _, _ => none
  | n + 1, a0, l1, l2 =>
    bif (decide (a0.rule < 0)) then
      chk (0 ≤ a0.lex ∧ a0.lex < (↑l2.length : Int)) <|
      letM (l2.set a0.lex.toNat (wr .i64 ((get l2 a0.lex.toNat) + 1))) fun c7 =>
      trainCount1_j0 (trainCount1 n) a0 (l1, c7)
    else
      chk (0 ≤ a0.rule ∧ a0.rule < (↑l1.length : Int)) <|
      letM (l1.set a0.rule.toNat (wr .i64 ((get l1 a0.rule.toNat) + 1))) fun c16 =>
      trainCount1_j0 (trainCount1 n) a0 (c16, l2)

def trainCount_b0 (n : Nat) (a0 : ApiGrammar) (l0 : (List ApiTree)) (k0 : Nat) (s0 : (List Int) × (List Int)) : Option (Ctl (ApiCounts × ApiFault) ((List Int) × (List Int)) ((List Int) × (List Int))) :=
  (deriveFits n a0 (get l0 k0)).bind fun v17 =>
  bif (!decide (v17.code = 0)) then
    (trainFault v17.code (↑k0 : Int)).bind fun v18 =>
    some (.ret ((ApiCounts.mk [] []), v18))
  else
    (trainCount1 n (get l0 k0) s0.1 s0.2).bind fun v19 =>
    some (.nxt (v19.1, v19.2))

def trainCount_a0 (t0 : (List Int) × (List Int)) : Option (ApiCounts × ApiFault) :=
  some ((ApiCounts.mk t0.1 t0.2), (ApiFault.mk 0 0))

def trainCount (n : Nat) (a0 : ApiGrammar) (l0 : (List ApiTree)) : Option (ApiCounts × ApiFault) :=
  (grammarValidate n a0).bind fun v1 =>
  bif (!decide (v1.code = 0)) then
    some ((ApiCounts.mk [] []), v1)
  else
    bif (decide (200 < (↑l0.length : Int))) then
      (trainFault 2 (-2)).bind fun v2 =>
      some ((ApiCounts.mk [] []), v2)
    else
      chk (a0.rules.length * 8 ≤ top ∧ a0.rules.length ≤ top) <|
      chk (a0.lexes.length * 8 ≤ top ∧ a0.lexes.length ≤ top) <|
      chk (l0.length ≤ 9223372036854775807) <|
      thenM (rangeM (trainCount_b0 n a0 l0) l0.length ((List.replicate a0.rules.length (default : Int)), (List.replicate a0.lexes.length (default : Int)))) (trainCount_a0)

end Go.Proofs.YtaohdfpcdfbnlaaDoor

namespace Go.Proofs.YtaohdfpcdfbnlaaDoor
open Go Go.Am

def trainCheck_b0 (a1 : ApiCounts) (k0 : Nat) (s0 : Unit) : Option (Ctl (ApiFault) (Unit) (Unit)) :=
  bif (bif (decide ((get a1.rules k0) < 0)) then true else (decide (1000000 < (get a1.rules k0)))) then
    (trainFault 3 (↑k0 : Int)).bind fun v4 =>
    some (.ret v4)
  else
    some (.nxt ())

def trainCheck_b1 (a1 : ApiCounts) (k1 : Nat) (s1 : Unit) : Option (Ctl (ApiFault) (Unit) (Unit)) :=
  bif (bif (decide ((get a1.lexes k1) < 0)) then true else (decide (1000000 < (get a1.lexes k1)))) then
    (trainFault 3 (wr .i64 ((↑a1.rules.length : Int) + (↑k1 : Int)))).bind fun v6 =>
    some (.ret v6)
  else
    some (.nxt ())

def trainCheck_a1 (t1 : Unit) : Option (ApiFault) :=
  some (ApiFault.mk 0 0)

def trainCheck_a0 (a1 : ApiCounts) (t0 : Unit) : Option (ApiFault) :=
  thenM (rangeM (trainCheck_b1 a1) a1.lexes.length ()) (trainCheck_a1)

def trainCheck (n : Nat) (a0 : ApiGrammar) (a1 : ApiCounts) : Option (ApiFault) :=
  (grammarValidate n a0).bind fun v1 =>
  bif (!decide (v1.code = 0)) then
    some v1
  else
    bif (bif (!decide ((↑a1.rules.length : Int) = (↑a0.rules.length : Int))) then true else (!decide ((↑a1.lexes.length : Int) = (↑a0.lexes.length : Int)))) then
      (trainFault 9 (-2)).bind fun v2 =>
      some v2
    else
      thenM (rangeM (trainCheck_b0 a1) a1.rules.length ()) (trainCheck_a0 a1)

def fracSize (a0 : Int) : Option (Int) :=
  bif (decide (a0 < 0)) then
    some (wr .u64 ((wr .u64 (wr .i64 (0 - (wr .i64 (a0 + 1))))) + 1))
  else
    some (wr .u64 a0)

def fracGcd_b0 (s0 : Int × Int) : Option (Ctl (Int) (Int × Int) (Int)) :=
  bif (!decide (s0.2 = 0)) then
    chk (s0.2 ≠ 0) <|
    some (.nxt (s0.2, (Int.tmod s0.1 s0.2)))
  else
    some (.brk s0.1)

def fracGcd_a0 (t0 : Int) : Option (Int) :=
  some t0

def fracGcd (n : Nat) (a0 : Int) (a1 : Int) : Option (Int) :=
  thenM (loopM (fracGcd_b0) n (a0, a1)) (fracGcd_a0)

def fracOf (a0 : Bool) (a1 : Int) (a2 : Int) : Option (ApiFrac × ApiFault) :=
  bif (bif (decide (1152921504606846976 < a1)) then true else (decide (1152921504606846976 < a2))) then
    some ((ApiFrac.mk 0 0), (ApiFault.mk 18 0))
  else
    bif a0 then
      some ((ApiFrac.mk (wr .i64 (0 - (wr .i64 a1))) (wr .i64 a2)), (ApiFault.mk 0 0))
    else
      some ((ApiFrac.mk (wr .i64 a1) (wr .i64 a2)), (ApiFault.mk 0 0))

def fracMake (n : Nat) (a0 : Int) (a1 : Int) : Option (ApiFrac × ApiFault) :=
  bif (decide (a1 = 0)) then
    some ((ApiFrac.mk 0 0), (ApiFault.mk 19 (-2)))
  else
    (fracSize a0).bind fun v1 =>
    (fracSize a1).bind fun v2 =>
    (fracGcd n v1 v2).bind fun v3 =>
    chk (v3 ≠ 0 ∧ InK .u64 (Int.tdiv v1 v3)) <|
    chk (InK .u64 (Int.tdiv v2 v3)) <|
    (fracOf (!decide ((decide (a0 < 0)) = (decide (a1 < 0)))) (Int.tdiv v1 v3) (Int.tdiv v2 v3)).bind fun v7 =>
    some (v7.1, v7.2)

def trainWeights1_b0 (n : Nat) (l0 : (List Int)) (l2 : (List Int)) (a1 : (List Int)) (k0 : Nat) (s0 : (List ApiFrac)) : Option (Ctl ((List ApiFrac)) ((List ApiFrac)) ((List ApiFrac))) :=
  chk (0 ≤ (get l0 k0) ∧ (get l0 k0) < (↑l2.length : Int)) <|
  bif (decide (0 < (get l2 ((get l0 k0).toNat)))) then
    chk ((↑k0 : Int) < (↑a1.length : Int)) <|
    (fracMake n (get a1 k0) (get l2 ((get l0 k0).toNat))).bind fun v33 =>
    letM (s0 ++ [v33.1]) fun c35 =>
    chk (c35.length * 16 ≤ top ∧ c35.length ≤ top) <|
    some (.nxt c35)
  else
    letM (s0 ++ [(ApiFrac.mk 0 1)]) fun c41 =>
    chk (c41.length * 16 ≤ top ∧ c41.length ≤ top) <|
    some (.nxt c41)

def trainWeights1_a0 (t0 : (List ApiFrac)) : Option ((List ApiFrac)) :=
  some t0

def trainWeights1 (n : Nat) (a1 : (List Int)) (l0 : (List Int)) (l2 : (List Int)) : Option ((List ApiFrac)) :=
  chk (l0.length ≤ 9223372036854775807) <|
  thenM (rangeM (trainWeights1_b0 n l0 l2 a1) l0.length []) (trainWeights1_a0)

end Go.Proofs.YtaohdfpcdfbnlaaDoor

namespace Go.Proofs.YtaohdfpcdfbnlaaDoor
open Go Go.Am

def trainWeights_b0 (n : Nat) (a0 : ApiGrammar) (a1 : ApiCounts) (k0 : Nat) (s0 : (List Int) × (List Int)) : Option (Ctl ((List ApiFrac) × (List ApiFrac)) ((List Int) × (List Int)) ((List Int) × (List Int))) :=
  (graphTarget n ((get a0.rules k0).graph) 0 0).bind fun v23 =>
  chk (0 ≤ v23 ∧ v23 < (↑(((get a0.rules k0).graph.nodes).length) : Int)) <|
  letM (s0.2 ++ [(get ((get a0.rules k0).graph.nodes) v23.toNat).type]) fun c27 =>
  chk (c27.length * 8 ≤ top ∧ c27.length ≤ top) <|
  chk (0 ≤ (get ((get a0.rules k0).graph.nodes) v23.toNat).type ∧ (get ((get a0.rules k0).graph.nodes) v23.toNat).type < (↑s0.1.length : Int)) <|
  chk ((↑k0 : Int) < (↑a1.rules.length : Int)) <|
  letM (s0.1.set (((get ((get a0.rules k0).graph.nodes) v23.toNat).type).toNat) (wr .i64 ((get s0.1 (((get ((get a0.rules k0).graph.nodes) v23.toNat).type).toNat)) + (get a1.rules k0)))) fun c39 =>
  some (.nxt (c39, c27))

def trainWeights_b1 (a0 : ApiGrammar) (a1 : ApiCounts) (k1 : Nat) (s1 : (List Int) × (List Int)) : Option (Ctl ((List ApiFrac) × (List ApiFrac)) ((List Int) × (List Int)) ((List Int) × (List Int))) :=
  chk (0 < (↑(((get a0.lexes k1).graph.nodes).length) : Int)) <|
  letM (s1.2 ++ [(get ((get a0.lexes k1).graph.nodes) 0).type]) fun c61 =>
  chk (c61.length * 8 ≤ top ∧ c61.length ≤ top) <|
  chk (0 ≤ (get ((get a0.lexes k1).graph.nodes) 0).type ∧ (get ((get a0.lexes k1).graph.nodes) 0).type < (↑s1.1.length : Int)) <|
  chk ((↑k1 : Int) < (↑a1.lexes.length : Int)) <|
  letM (s1.1.set (((get ((get a0.lexes k1).graph.nodes) 0).type).toNat) (wr .i64 ((get s1.1 (((get ((get a0.lexes k1).graph.nodes) 0).type).toNat)) + (get a1.lexes k1)))) fun c73 =>
  some (.nxt (c73, c61))

def trainWeights_a1 (n : Nat) (a1 : ApiCounts) (t0 : (List Int) × (List Int)) (t1 : (List Int) × (List Int)) : Option ((List ApiFrac) × (List ApiFrac)) :=
  (trainWeights1 n a1.rules t0.2 t1.1).bind fun v76 =>
  (trainWeights1 n a1.lexes t1.2 t1.1).bind fun v77 =>
  some (v76, v77)

def trainWeights_a0 (n : Nat) (a0 : ApiGrammar) (a1 : ApiCounts) (t0 : (List Int) × (List Int)) : Option ((List ApiFrac) × (List ApiFrac)) :=
  thenM (rangeM (trainWeights_b1 a0 a1) a0.lexes.length (t0.1, [])) (trainWeights_a1 n a1 t0)

def trainWeights (n : Nat) (a0 : ApiGrammar) (a1 : ApiCounts) : Option ((List ApiFrac) × (List ApiFrac)) :=
  chk (a0.hierarchy.types.length * 8 ≤ top ∧ a0.hierarchy.types.length ≤ top) <|
  thenM (rangeM (trainWeights_b0 n a0 a1) a0.rules.length ((List.replicate a0.hierarchy.types.length (default : Int)), [])) (trainWeights_a0 n a0 a1)

def fracCheck (n : Nat) (a0 : ApiFrac) (a1 : Int) : Option (ApiFault) :=
  bif (bif (bif (bif (decide (a0.num < (-1152921504606846976))) then true else (decide (1152921504606846976 < a0.num))) then true else (decide (a0.den < 1))) then true else (decide (1152921504606846976 < a0.den))) then
    some (ApiFault.mk 3 a1)
  else
    (fracSize a0.num).bind fun v1 =>
    (fracGcd n v1 (wr .u64 a0.den)).bind fun v2 =>
    bif (!decide (v2 = 1)) then
      some (ApiFault.mk 5 a1)
    else
      some (ApiFault.mk 0 0)

def fracBoth (n : Nat) (a0 : ApiFrac) (a1 : ApiFrac) : Option (ApiFault) :=
  (fracCheck n a0 (-1)).bind fun v1 =>
  bif (!decide (v1.code = 0)) then
    some v1
  else
    (fracCheck n a1 (-2)).bind fun v2 =>
    some v2

def mathBitsMul64 (a0 : Int) (a1 : Int) : Option (Int × Int) :=
  some ((wr .u64 ((wr .u64 ((wr .u64 ((Int.fdiv a0 (2 ^ (min 32 64))) * (Int.fdiv a1 (2 ^ (min 32 64))))) + (Int.fdiv (wr .u64 ((wr .u64 ((Int.fdiv a0 (2 ^ (min 32 64))) * (bitop .and .u64 a1 4294967295))) + (Int.fdiv (wr .u64 ((bitop .and .u64 a0 4294967295) * (bitop .and .u64 a1 4294967295))) (2 ^ (min 32 64))))) (2 ^ (min 32 64))))) + (Int.fdiv (wr .u64 ((bitop .and .u64 (wr .u64 ((wr .u64 ((Int.fdiv a0 (2 ^ (min 32 64))) * (bitop .and .u64 a1 4294967295))) + (Int.fdiv (wr .u64 ((bitop .and .u64 a0 4294967295) * (bitop .and .u64 a1 4294967295))) (2 ^ (min 32 64))))) 4294967295) + (wr .u64 ((bitop .and .u64 a0 4294967295) * (Int.fdiv a1 (2 ^ (min 32 64))))))) (2 ^ (min 32 64))))), (wr .u64 (a0 * a1)))

def fracProduct (a0 : Int) (a1 : Int) : Option (Int × Bool) :=
  (mathBitsMul64 a0 a1).bind fun v1 =>
  some (v1.2, (bif (decide (v1.1 = 0)) then (decide (v1.2 ≤ 1152921504606846976)) else false))

def fracMul_2 (n : Nat) (a0 : ApiFrac) (a1 : ApiFrac) : Option (ApiFrac × ApiFault) :=
  (fracSize a0.num).bind fun v1 =>
  (fracSize a1.num).bind fun v2 =>
  (fracGcd n v1 (wr .u64 a1.den)).bind fun v3 =>
  (fracGcd n v2 (wr .u64 a0.den)).bind fun v4 =>
  chk (v3 ≠ 0 ∧ InK .u64 (Int.tdiv v1 v3)) <|
  chk (v4 ≠ 0 ∧ InK .u64 (Int.tdiv v2 v4)) <|
  (fracProduct (Int.tdiv v1 v3) (Int.tdiv v2 v4)).bind fun v9 =>
  chk (InK .u64 (Int.tdiv (wr .u64 a0.den) v4)) <|
  chk (InK .u64 (Int.tdiv (wr .u64 a1.den) v3)) <|
  (fracProduct (Int.tdiv (wr .u64 a0.den) v4) (Int.tdiv (wr .u64 a1.den) v3)).bind fun v12 =>
  bif (bif (!v9.2) then true else (!v12.2)) then
    some ((ApiFrac.mk 0 0), (ApiFault.mk 18 0))
  else
    (fracOf (bif (!decide ((decide (a0.num < 0)) = (decide (a1.num < 0)))) then (decide (0 < v9.1)) else false) v9.1 v12.1).bind fun v13 =>
    some (v13.1, v13.2)

end Go.Proofs.YtaohdfpcdfbnlaaDoor

namespace Go.Proofs.YtaohdfpcdfbnlaaDoor
open Go Go.Am

def fracMul (n : Nat) (a0 : ApiFrac) (a1 : ApiFrac) : Option (ApiFrac × ApiFault) :=
  (fracBoth n a0 a1).bind fun v1 =>
  bif (!decide (v1.code = 0)) then
    some ((ApiFrac.mk 0 0), v1)
  else
    (fracMul_2 n a0 a1).bind fun v2 =>
    some (v2.1, v2.2)

def trainProbability1_b1 (self : (ApiTree) → ((List ApiFrac)) → ((List ApiFrac)) → (Int) → (Int) → Option (Bool × Int × Int)) (a0 : ApiTree) (b0_0 : (List ApiFrac)) (b1_0 : (List ApiFrac)) (k1 : Nat) (s1 : Int × Int) : Option (Ctl (Bool × Int × Int) (Int × Int) (Int × Int)) :=
  (self (get a0.kids k1) b0_0 b1_0 s1.1 s1.2).bind fun v7 =>
  bif (!v7.1) then
    some (.ret (false, v7.2.1, v7.2.2))
  else
    some (.nxt (v7.2.1, v7.2.2))

def trainProbability1_a1 (t1 : Int × Int) : Option (Bool × Int × Int) :=
  some (true, t1.1, t1.2)

def trainProbability1_j0 (self : (ApiTree) → ((List ApiFrac)) → ((List ApiFrac)) → (Int) → (Int) → Option (Bool × Int × Int)) (n : Nat) (b2_0 : Int) (b2_1 : Int) (a0 : ApiTree) (b0_0 : (List ApiFrac)) (b1_0 : (List ApiFrac)) (j0 : Int × Int) : Option (Bool × Int × Int) :=
  (fracMul n (ApiFrac.mk b2_0 b2_1) (ApiFrac.mk j0.1 j0.2)).bind fun v5 =>
  bif (!decide (v5.2.code = 0)) then
    some (false, v5.1.num, v5.1.den)
  else
    thenM (rangeM (trainProbability1_b1 self a0 b0_0 b1_0) a0.kids.length (v5.1.num, v5.1.den)) (trainProbability1_a1)

def trainProbability1 : Nat → (ApiTree) → ((List ApiFrac)) → ((List ApiFrac)) → (Int) → (Int) → Option (Bool × Int × Int)
  | 0, _, _, _, _, _ => none
  | n + 1, a0, b0_0, b1_0, b2_0, b2_1 =>
    bif (decide (a0.rule < 0)) then
      chk (0 ≤ a0.lex ∧ a0.lex < (↑b0_0.length : Int)) <|
      trainProbability1_j0 (trainProbability1 n) n b2_0 b2_1 a0 b0_0 b1_0 ((get b0_0 a0.lex.toNat).num, (get b0_0 a0.lex.toNat).den)
    else
      chk (0 ≤ a0.rule ∧ a0.rule < (↑b1_0.length : Int)) <|
      trainProbability1_j0 (trainProbability1 n) n b2_0 b2_1 a0 b0_0 b1_0 ((get b1_0 a0.rule.toNat).num, (get b1_0 a0.rule.toNat).den)

def trainProbability_2 (n : Nat) (a0 : (List ApiFrac)) (a1 : (List ApiFrac)) (a2 : ApiTree) : Option (ApiFrac × Bool) :=
  (trainProbability1 n a2 a1 a0 1 1).bind fun v1 =>
  bif (!v1.1) then
    some ((ApiFrac.mk 0 0), false)
  else
    some ((ApiFrac.mk v1.2.1 v1.2.2), true)

def trainProbability (n : Nat) (a0 : ApiGrammar) (a1 : ApiCounts) (a2 : ApiTree) : Option (ApiFrac × ApiFault) :=
  (trainCheck n a0 a1).bind fun v1 =>
  bif (!decide (v1.code = 0)) then
    some ((ApiFrac.mk 0 0), v1)
  else
    (deriveFits n a0 a2).bind fun v2 =>
    bif (!decide (v2.code = 0)) then
      some ((ApiFrac.mk 0 0), v2)
    else
      (trainWeights n a0 a1).bind fun v3 =>
      (trainProbability_2 n v3.1 v3.2 a2).bind fun v4 =>
      bif (!v4.2) then
        (trainFault 18 0).bind fun v5 =>
        some ((ApiFrac.mk 0 0), v5)
      else
        some (v4.1, (ApiFault.mk 0 0))

end Go.Proofs.YtaohdfpcdfbnlaaDoor

namespace Go.Proofs.YtaohdfpcdfbnlaaDoor
open Go Go.Am

def glosswrightlaw8TrainReady (n : Nat) : Option (Bool) :=
  (glosswrightequalSmall n).bind fun v1 =>
  (trainCount n v1 [(ApiTree.mk 0 0 [(ApiTree.mk (-1) 19 []), (ApiTree.mk 2 0 [(ApiTree.mk (-1) 9 [])])])]).bind fun v5 =>
  chk (gImp (!(bif (bif (!decide (v5.2.code = 0)) then true else (!decide ((↑v5.1.rules.length : Int) = 6))) then true else (!decide ((↑v5.1.lexes.length : Int) = 21)))) (0 < (↑v5.1.rules.length : Int))) <|
  chk (gImp (!(bif (bif (bif (!decide (v5.2.code = 0)) then true else (!decide ((↑v5.1.rules.length : Int) = 6))) then true else (!decide ((↑v5.1.lexes.length : Int) = 21))) then true else (!decide ((get v5.1.rules 0) = 1)))) (19 < (↑v5.1.lexes.length : Int))) <|
  chk (gImp (!(bif (bif (bif (bif (!decide (v5.2.code = 0)) then true else (!decide ((↑v5.1.rules.length : Int) = 6))) then true else (!decide ((↑v5.1.lexes.length : Int) = 21))) then true else (!decide ((get v5.1.rules 0) = 1))) then true else (!decide ((get v5.1.lexes 19) = 1)))) (0 < (↑v5.1.lexes.length : Int))) <|
  bif (bif (bif (bif (bif (bif (!decide (v5.2.code = 0)) then true else (!decide ((↑v5.1.rules.length : Int) = 6))) then true else (!decide ((↑v5.1.lexes.length : Int) = 21))) then true else (!decide ((get v5.1.rules 0) = 1))) then true else (!decide ((get v5.1.lexes 19) = 1))) then true else (!decide ((get v5.1.lexes 0) = 0))) then
    some false
  else
    (trainProbability n v1 v5.1 (ApiTree.mk 0 0 [(ApiTree.mk (-1) 19 []), (ApiTree.mk 2 0 [(ApiTree.mk (-1) 9 [])])])).bind fun v12 =>
    some (bif (decide (v12.2.code = 0)) then (decide (v12.1.num = 1) && (decide (v12.1.den = 1))) else false)

def trainCount_3_b0 (n : Nat) (a0 : ApiGrammar) (l0 : (List ApiTree)) (k0 : Nat) (s0 : (List Int) × (List Int)) : Option (Ctl (ApiCounts × ApiFault) ((List Int) × (List Int)) ((List Int) × (List Int))) :=
  (deriveFits n a0 (get l0 k0)).bind fun v17 =>
  bif (!decide (v17.code = 0)) then
    (trainFault v17.code (↑k0 : Int)).bind fun v18 =>
    some (.ret ((ApiCounts.mk [] []), v18))
  else
    (trainCount1 n (get l0 k0) s0.1 s0.2).bind fun v19 =>
    some (.nxt (v19.1, v19.2))

def trainCount_3_a0 (t0 : (List Int) × (List Int)) : Option (ApiCounts × ApiFault) :=
  some ((ApiCounts.mk t0.1 t0.2), (ApiFault.mk 0 0))

def trainCount_3 (n : Nat) (a0 : ApiGrammar) (l0 : (List ApiTree)) : Option (ApiCounts × ApiFault) :=
  (grammarValidate n a0).bind fun v1 =>
  bif (!decide (v1.code = 0)) then
    some ((ApiCounts.mk [] []), v1)
  else
    bif (decide (200 < (↑l0.length : Int))) then
      (trainFault 2 (-2)).bind fun v2 =>
      some ((ApiCounts.mk [] []), v2)
    else
      chk (a0.rules.length * 8 ≤ top ∧ a0.rules.length ≤ top) <|
      chk (a0.lexes.length * 8 ≤ top ∧ a0.lexes.length ≤ top) <|
      chk (l0.length ≤ 9223372036854775807) <|
      thenM (rangeM (trainCount_3_b0 n a0 l0) l0.length ((List.replicate a0.rules.length (default : Int)), (List.replicate a0.lexes.length (default : Int)))) (trainCount_3_a0)

end Go.Proofs.YtaohdfpcdfbnlaaDoor

namespace Go.Proofs.YtaohdfpcdfbnlaaDoor
open Go Go.Am

def trainWeights_2 (n : Nat) (a0 : ApiGrammar) (a1 : ApiCounts) : Option ((List ApiFrac) × (List ApiFrac) × ApiFault) :=
  (trainCheck n a0 a1).bind fun v1 =>
  bif (!decide (v1.code = 0)) then
    some ([], [], v1)
  else
    (trainWeights n a0 a1).bind fun v2 =>
    some (v2.1, v2.2, (ApiFault.mk 0 0))

def glosswrightlaw8TrainScaled_b0 (a1 : ApiCounts) (a2 : Int) (s0 : (List Int) × Int) : Option (Ctl (Bool) ((List Int) × Int) ((List Int))) :=
  bif (decide (s0.2 < (↑a1.rules.length : Int))) then
    chk (0 ≤ s0.2 ∧ s0.2 < (↑a1.rules.length : Int)) <|
    letM (s0.1 ++ [(wr .i64 ((get a1.rules s0.2.toNat) * a2))]) fun c13 =>
    chk (c13.length * 8 ≤ top ∧ c13.length ≤ top) <|
    some (.nxt (c13, (wr .i64 (s0.2 + 1))))
  else
    some (.brk s0.1)

def glosswrightlaw8TrainScaled_b1 (a1 : ApiCounts) (a2 : Int) (s1 : (List Int) × Int) : Option (Ctl (Bool) ((List Int) × Int) ((List Int))) :=
  bif (decide (s1.2 < (↑a1.lexes.length : Int))) then
    chk (0 ≤ s1.2 ∧ s1.2 < (↑a1.lexes.length : Int)) <|
    letM (s1.1 ++ [(wr .i64 ((get a1.lexes s1.2.toNat) * a2))]) fun c28 =>
    chk (c28.length * 8 ≤ top ∧ c28.length ≤ top) <|
    some (.nxt (c28, (wr .i64 (s1.2 + 1))))
  else
    some (.brk s1.1)

def glosswrightlaw8TrainScaled_b2 (v2 : (List ApiFrac) × (List ApiFrac) × ApiFault) (v33 : (List ApiFrac) × (List ApiFrac) × ApiFault) (s2 : Int) : Option (Ctl (Bool) (Int) (Unit)) :=
  bif (decide (s2 < (↑v2.1.length : Int))) then
    chk (0 ≤ s2 ∧ s2 < (↑v2.1.length : Int)) <|
    chk (s2 < (↑v33.1.length : Int)) <|
    bif (!(decide ((get v2.1 s2.toNat).num = (get v33.1 s2.toNat).num) && (decide ((get v2.1 s2.toNat).den = (get v33.1 s2.toNat).den)))) then
      some (.ret false)
    else
      some (.nxt (wr .i64 (s2 + 1)))
  else
    some (.brk ())

def glosswrightlaw8TrainScaled_b3 (v2 : (List ApiFrac) × (List ApiFrac) × ApiFault) (v33 : (List ApiFrac) × (List ApiFrac) × ApiFault) (s3 : Int) : Option (Ctl (Bool) (Int) (Unit)) :=
  bif (decide (s3 < (↑v2.2.1.length : Int))) then
    chk (0 ≤ s3 ∧ s3 < (↑v2.2.1.length : Int)) <|
    chk (s3 < (↑v33.2.1.length : Int)) <|
    bif (!(decide ((get v2.2.1 s3.toNat).num = (get v33.2.1 s3.toNat).num) && (decide ((get v2.2.1 s3.toNat).den = (get v33.2.1 s3.toNat).den)))) then
      some (.ret false)
    else
      some (.nxt (wr .i64 (s3 + 1)))
  else
    some (.brk ())

def glosswrightlaw8TrainScaled_a3 (t3 : Unit) : Option (Bool) :=
  some true

def glosswrightlaw8TrainScaled_a2 (n : Nat) (v2 : (List ApiFrac) × (List ApiFrac) × ApiFault) (v33 : (List ApiFrac) × (List ApiFrac) × ApiFault) (t2 : Unit) : Option (Bool) :=
  thenM (loopM (glosswrightlaw8TrainScaled_b3 v2 v33) n 0) (glosswrightlaw8TrainScaled_a3)

def glosswrightlaw8TrainScaled_a1 (n : Nat) (a0 : ApiGrammar) (t0 : (List Int)) (v2 : (List ApiFrac) × (List ApiFrac) × ApiFault) (t1 : (List Int)) : Option (Bool) :=
  (trainWeights_2 n a0 (ApiCounts.mk t0 t1)).bind fun v33 =>
  bif (!decide (v33.2.2.code = 0)) then
    some (decide (v33.2.2.code = 3))
  else
    bif (bif (!decide ((↑v33.1.length : Int) = (↑v2.1.length : Int))) then true else (!decide ((↑v33.2.1.length : Int) = (↑v2.2.1.length : Int)))) then
      some false
    else
      thenM (loopM (glosswrightlaw8TrainScaled_b2 v2 v33) n 0) (glosswrightlaw8TrainScaled_a2 n v2 v33)

def glosswrightlaw8TrainScaled_a0 (n : Nat) (a1 : ApiCounts) (a2 : Int) (a0 : ApiGrammar) (v2 : (List ApiFrac) × (List ApiFrac) × ApiFault) (t0 : (List Int)) : Option (Bool) :=
  thenM (loopM (glosswrightlaw8TrainScaled_b1 a1 a2) n ([], 0)) (glosswrightlaw8TrainScaled_a1 n a0 t0 v2)

def glosswrightlaw8TrainScaled (n : Nat) (a0 : ApiGrammar) (a1 : ApiCounts) (a2 : Int) : Option (Bool) :=
  (glosswrightlaw8TrainReady n).bind fun v1 =>
  bif (!v1) then
    some false
  else
    (trainWeights_2 n a0 a1).bind fun v2 =>
    bif (bif (bif (!decide (v2.2.2.code = 0)) then true else (decide (a2 < 1))) then true else (decide (1000 < a2))) then
      some true
    else
      thenM (loopM (glosswrightlaw8TrainScaled_b0 a1 a2) n ([], 0)) (glosswrightlaw8TrainScaled_a0 n a1 a2 a0 v2)

end Go.Proofs.YtaohdfpcdfbnlaaDoor

namespace Go.Proofs.YtaohdfpcdfbnlaaDoor
open Go Go.Am


end Go.Proofs.YtaohdfpcdfbnlaaDoor


import Derived.Test.YtoekkdodipnmpaaGreatDoorSHand
import Derived.Test.YtoekkdodipnmpaaGreatDoorSRowT
set_option linter.unusedVariables false
set_option linter.unusedSimpArgs false
namespace Go.Proofs.YtoekkdodipnmpaaGreatDoor
open Go Go.Am
def Y8(a0:(List x5))(s0:(List Bool)×Int)(k2:Nat)(s2:(List Bool)):Option (Ctl (Ctl (Bool) ((List Bool)×Int) ((List Bool))) ((List Bool)) ((List Bool))):=
 chk (0≤(get ((get a0 s0.2.toNat).parents) k2)∧(get ((get a0 s0.2.toNat).parents) k2)<(↑s2.length:Int)) <|
 cR (s2.set ((get ((get a0 s0.2.toNat).parents) k2).toNat) true) fun c44=>
 some (.nxt c44)
def Y9(s0:(List Bool)×Int)(t2:(List Bool)):Option (Ctl (Bool) ((List Bool)×Int) ((List Bool))):=
 some (.nxt (t2,(wr .i64 (s0.2-1))))
def Y7(a2:Int)(a0:(List x5))(s0:(List Bool)×Int):Option (Ctl (Bool) ((List Bool)×Int) ((List Bool))):=
 bif (decide (a2<s0.2))then
  chk (0≤s0.2∧s0.2<(↑s0.1.length:Int)) <|
  bif (get s0.1 s0.2.toNat)then
   chk (s0.2<(↑a0.length:Int)) <|
   C6 (E0 (Y8 a0 s0) (((get a0 s0.2.toNat).parents).length) s0.1) (Y9 s0)
  else
   some (.nxt (s0.1,(wr .i64 (s0.2-1))))
 else
  some (.brk s0.1)
def Z0(a2:Int)(t0:(List Bool)):Option (Bool):=
 chk (0≤a2∧a2<(↑t0.length:Int)) <|
 some (get t0 a2.toNat)
def D7(n:Nat)(a0:(List x5))(a1:Int)(a2:Int):Option (Bool):=
 chk (a0.length*1≤top∧a0.length≤top) <|
 chk (0≤a1∧a1<(↑a0.length:Int)) <|
 cR ((List.replicate a0.length (default:Bool)).set a1.toNat true) fun c8=>
 C6 (V9 (Y7 a2 a0) n (c8,a1)) (Z0 a2)
def J1(a0:Bs):Option (u0):=
 some (u0.mk a0 [])
def C8(a0:u0)(a1:u0):Option (u0):=
 some (u0.mk [] [a0,a1])
def T4(a1:(List Int))(a0:(List Bs))(k0:Nat)(s0:(List x5)):Option (Ctl (x7) ((List x5)) ((List x5))):=
 bif (decide (0<(↑k0:Int)))then
  chk ((↑k0:Int)<(↑a1.length:Int)) <|
  cR (s0++[(x5.mk (get a0 k0) [(get a1 k0)])]) fun c14=>
  chk (c14.length*40≤top∧c14.length≤top) <|
  some (.nxt c14)
 else
  chk ((s0.length+1)*40≤top∧s0.length+1≤top) <|
  some (.nxt (s0++[(x5.mk (get a0 k0) [])]))
def T5(a2:(List A0))(t0:(List x5)):Option (x7):=
 some (x7.mk t0 a2)
def W8(a0:(List Bs))(a1:(List Int))(a2:(List A0)):Option (x7):=
 C6 (E0 (T4 a1 a0) a0.length []) (T5 a2)
def y5(a0:Int):Option (w6):=
 some (w6.mk 2 [] a0 (u0.mk [] []) [])
def B8(a0:w6)(a1:w6):Option (w6):=
 some (w6.mk 4 [] 0 (u0.mk [] []) [a0,a1])
def A8(a0:u0)(a1:w6):Option (w6):=
 some (w6.mk 3 [] 0 a0 [a1])
def aF(a0:Bool):Option ((List w6)):=
 (J1 [101]).bind fun v1=>
 (J1 [116]).bind fun v2=>
 (C8 v1 v2).bind fun v3=>
 (C8 v3 v2).bind fun v4=>
 (C8 v1 v3).bind fun v5=>
 (C8 v3 v4).bind fun v6=>
 (y5 1).bind fun v7=>
 (y5 0).bind fun v8=>
 (B8 v7 v8).bind fun v9=>
 (A8 v3 v9).bind fun v10=>
 (A8 v4 v10).bind fun v11=>
 (y5 1).bind fun v12=>
 (y5 0).bind fun v13=>
 (B8 v12 v13).bind fun v14=>
 (A8 v3 v14).bind fun v15=>
 (A8 v6 v15).bind fun v16=>
 (y5 0).bind fun v17=>
 (A8 v3 v17).bind fun v18=>
 (y5 1).bind fun v19=>
 (y5 3).bind fun v20=>
 (y5 1).bind fun v21=>
 (B8 v20 v21).bind fun v22=>
 (y5 0).bind fun v23=>
 (B8 v22 v23).bind fun v24=>
 (A8 v1 v24).bind fun v25=>
 (B8 v19 v25).bind fun v26=>
 (A8 v1 v26).bind fun v27=>
 (A8 v4 v27).bind fun v28=>
 (A8 v5 v28).bind fun v29=>
 (C8 v2 v2).bind fun v30=>
 (y5 2).bind fun v31=>
 (y5 1).bind fun v32=>
 (y5 0).bind fun v33=>
 (B8 v32 v33).bind fun v34=>
 (B8 v31 v34).bind fun v35=>
 (A8 v1 v35).bind fun v36=>
 (A8 v3 v36).bind fun v37=>
 (A8 v30 v37).bind fun v38=>
 (C8 v2 v2).bind fun v39=>
 (C8 v2 v39).bind fun v40=>
 (y5 2).bind fun v41=>
 (y5 3).bind fun v42=>
 (y5 0).bind fun v43=>
 (B8 v42 v43).bind fun v44=>
 (B8 v41 v44).bind fun v45=>
 (y5 1).bind fun v46=>
 (y5 0).bind fun v47=>
 (B8 v46 v47).bind fun v48=>
 (B8 v45 v48).bind fun v49=>
 (A8 v3 v49).bind fun v50=>
 (A8 v4 v50).bind fun v51=>
 (A8 v40 v51).bind fun v52=>
 (A8 v4 v52).bind fun v53=>
 bif a0 then
  (y5 0).bind fun v55=>
  (y5 1).bind fun v56=>
  (B8 v55 v56).bind fun v57=>
  (A8 v4 v57).bind fun v58=>
  (A8 v3 v58).bind fun v59=>
  (y5 0).bind fun v60=>
  (y5 1).bind fun v61=>
  (B8 v60 v61).bind fun v62=>
  (A8 v6 v62).bind fun v63=>
  (A8 v3 v63).bind fun v64=>
  (y5 2).bind fun v65=>
  (y5 2).bind fun v66=>
  (y5 1).bind fun v67=>
  (B8 v66 v67).bind fun v68=>
  (y5 0).bind fun v69=>
  (B8 v68 v69).bind fun v70=>
  (A8 v1 v70).bind fun v71=>
  (B8 v65 v71).bind fun v72=>
  (A8 v1 v72).bind fun v73=>
  (A8 v5 v73).bind fun v74=>
  (A8 v4 v74).bind fun v75=>
  some [v59,v64,v18,v75,v38,v53]
 else
  some [v11,v16,v18,v29,v38,v53]
def X8(a0:(List (List Int)))(k0:Nat)(s2:(List D9)×Int):Option (Ctl (Ctl (B0) ((List y4)) ((List y4))) ((List D9)×Int) ((List D9))):=
 bif (decide ((wr .i64 (s2.2+1))<(↑((get a0 k0).length):Int)))then
  chk (0≤s2.2∧s2.2<(↑((get a0 k0).length):Int)) <|
  chk (0≤(wr .i64 (s2.2+1))∧(wr .i64 (s2.2+1))<(↑((get a0 k0).length):Int)) <|
  cR (s2.1++[(D9.mk (get (get a0 k0) s2.2.toNat) (get (get a0 k0) ((wr .i64 (s2.2+1)).toNat)))]) fun c38=>
  chk (c38.length*16≤top∧c38.length≤top) <|
  some (.nxt (c38,(wr .i64 (s2.2+2))))
 else
  some (.brk s2.1)
def X9(s0:(List y4))(a0:(List (List Int)))(k0:Nat)(t2:(List D9)):Option (Ctl (B0) ((List y4)) ((List y4))):=
 chk ((s0.length+1)*32≤top∧s0.length+1≤top) <|
 some (.nxt (s0++[(y4.mk (get (get a0 k0) 0) t2)]))
def Y0(n:Nat)(a0:(List (List Int)))(k0:Nat)(s0:(List y4)):Option (Ctl (B0) ((List y4)) ((List y4))):=
 chk (0<(↑((get a0 k0).length):Int)) <|
 C6 (V9 (X8 a0 k0) n ([],1)) (X9 s0 a0 k0)
def Y1(t0:(List y4)):Option (B0):=
 some (B0.mk t0)
def E4(n:Nat)(a0:(List (List Int))):Option (B0):=
 C6 (E0 (Y0 n a0) a0.length []) (Y1)
def C1(a0:Bs)(a1:u0):Option (w6):=
 some (w6.mk 1 a0 0 a1 [])
def N7(v3:u0)(j0:Int×Bs×Int×Bs×(List u0)×(List w6)):Option (w6):=
 (A8 v3 (w6.mk j0.1 j0.2.1 j0.2.2.1 (u0.mk j0.2.2.2.1 j0.2.2.2.2.1) j0.2.2.2.2.2)).bind fun v22=>
 (A8 v3 v22).bind fun v23=>
 some v23
def L3(a0:Bs)(a1:Bs)(a2:Bool):Option (w6):=
 (J1 [101]).bind fun v1=>
 (J1 [116]).bind fun v2=>
 (C8 v1 v2).bind fun v3=>
 (C8 v3 v2).bind fun v4=>
 (C1 a0 v4).bind fun v5=>
 (C8 v2 v2).bind fun v6=>
 (C8 v2 v6).bind fun v7=>
 (C1 a1 v7).bind fun v8=>
 (y5 2).bind fun v9=>
 (y5 0).bind fun v10=>
 (B8 v9 v10).bind fun v11=>
 (B8 v8 v11).bind fun v12=>
 (y5 1).bind fun v13=>
 (y5 0).bind fun v14=>
 (B8 v13 v14).bind fun v15=>
 (B8 v12 v15).bind fun v16=>
 (A8 v1 v16).bind fun v17=>
 (B8 v5 v17).bind fun v18=>
 bif a2 then
  (C8 v2 v2).bind fun v19=>
  (C1 [110,111,116] v19).bind fun v20=>
  (B8 v20 v18).bind fun v21=>
  N7 v3 (v21.kind,v21.name,v21.index,v21.type.base,v21.type.args,v21.args)
 else
  N7 v3 (v18.kind,v18.name,v18.index,v18.type.base,v18.type.args,v18.args)
def B4(n:Nat)(a0:Bs)(a1:Int)(a2:w6)(a3:(List (List Int)))(S5:(List x5))(Kc:(List A0))(Kd:(List w8))(l1:(List D0))(l2:(List y4)):Option ((List D0)):=
 (E4 n a3).bind fun v1=>
 cR (l1++[(D0.mk a0 v1 a1 a2)]) fun c3=>
 chk (c3.length*144≤top∧c3.length≤top) <|
 some c3
def bT(n:Nat):Option (y7):=
 (J1 [101]).bind fun v1=>
 (J1 [116]).bind fun v2=>
 (C8 v1 v2).bind fun v3=>
 (C8 v1 v3).bind fun v4=>
 (W8 [[116,111,112],[114,117,108,101],[115,105,103,110],[110,117,109],[115,105,110,103],[112,108,117,114],[115],[110,112],[118,112],[110],[100,101,116],[105,118],[116,118],[97,100,118],[99,111,110,106]] [0,0,0,0,3,3,2,2,2,2,2,2,2,2,2] [(A0.mk [109,111,116,104,101,114] 1 2),(A0.mk [111,110,101] 1 2),(A0.mk [116,119,111] 1 2),(A0.mk [116,104,114,101,101] 1 2),(A0.mk [110,117,109] 2 3)]).bind fun v8=>
 (aF false).bind fun v9=>
 chk (0<(↑v9.length:Int)) <|
 (E4 n [[1,0,1,1,2,2,4],[6],[7,4,3],[3],[8,4,3]]).bind fun v17=>
 chk (1<(↑v9.length:Int)) <|
 (E4 n [[1,0,1,1,3,2,4],[7,4,2],[3],[10,4,2],[9,4,2]]).bind fun v25=>
 chk (2<(↑v9.length:Int)) <|
 (E4 n [[1,0,1,1,3],[8,4,2],[3],[11,4,2]]).bind fun v32=>
 chk (3<(↑v9.length:Int)) <|
 (E4 n [[1,0,1,1,3,2,4],[8,4,2],[3],[12,4,2],[7]]).bind fun v40=>
 chk (4<(↑v9.length:Int)) <|
 (E4 n [[1,0,1,1,3,2,4],[8,4,2],[3],[13],[8,4,2]]).bind fun v48=>
 chk (5<(↑v9.length:Int)) <|
 (E4 n [[1,0,1,1,3,2,4,3,5],[7,4,2],[5],[7],[14],[7]]).bind fun v57=>
 (L3 [97,108,108] [105,102] false).bind fun v59=>
 (B4 n [101,118,101,114,121] 1 v59 [[10,4,1],[4]] v8.types v8.C2 [(w8.mk [115] v17 2 0 (get v9 0)),(w8.mk [110,112] v25 2 1 (get v9 1)),(w8.mk [118,112,45,105,118] v32 1 0 (get v9 2)),(w8.mk [118,112,45,116,118] v40 2 2 (get v9 3)),(w8.mk [118,112,45,110,111,116] v48 2 3 (get v9 4)),(w8.mk [110,112,45,97,110,100] v57 3 4 (get v9 5))] [] []).bind fun v63=>
 (L3 [115,111,109,101] [97,110,100] false).bind fun v64=>
 (B4 n [97] 0 v64 [[10,4,1],[4]] v8.types v8.C2 [(w8.mk [115] v17 2 0 (get v9 0)),(w8.mk [110,112] v25 2 1 (get v9 1)),(w8.mk [118,112,45,105,118] v32 1 0 (get v9 2)),(w8.mk [118,112,45,116,118] v40 2 2 (get v9 3)),(w8.mk [118,112,45,110,111,116] v48 2 3 (get v9 4)),(w8.mk [110,112,45,97,110,100] v57 3 4 (get v9 5))] v63 []).bind fun v68=>
 (L3 [115,111,109,101] [97,110,100] true).bind fun v69=>
 (B4 n [110,111] 2 v69 [[10]] v8.types v8.C2 [(w8.mk [115] v17 2 0 (get v9 0)),(w8.mk [110,112] v25 2 1 (get v9 1)),(w8.mk [118,112,45,105,118] v32 1 0 (get v9 2)),(w8.mk [118,112,45,116,118] v40 2 2 (get v9 3)),(w8.mk [118,112,45,110,111,116] v48 2 3 (get v9 4)),(w8.mk [110,112,45,97,110,100] v57 3 4 (get v9 5))] v68 []).bind fun v72=>
 (C1 [100,111,103] v3).bind fun v73=>
 (B4 n [100,111,103] 0 v73 [[9,4,1],[4]] v8.types v8.C2 [(w8.mk [115] v17 2 0 (get v9 0)),(w8.mk [110,112] v25 2 1 (get v9 1)),(w8.mk [118,112,45,105,118] v32 1 0 (get v9 2)),(w8.mk [118,112,45,116,118] v40 2 2 (get v9 3)),(w8.mk [118,112,45,110,111,116] v48 2 3 (get v9 4)),(w8.mk [110,112,45,97,110,100] v57 3 4 (get v9 5))] v72 []).bind fun v77=>
 (C1 [100,111,103] v3).bind fun v78=>
 (B4 n [100,111,103,115] 0 v78 [[9,4,1],[5]] v8.types v8.C2 [(w8.mk [115] v17 2 0 (get v9 0)),(w8.mk [110,112] v25 2 1 (get v9 1)),(w8.mk [118,112,45,105,118] v32 1 0 (get v9 2)),(w8.mk [118,112,45,116,118] v40 2 2 (get v9 3)),(w8.mk [118,112,45,110,111,116] v48 2 3 (get v9 4)),(w8.mk [110,112,45,97,110,100] v57 3 4 (get v9 5))] v77 []).bind fun v82=>
 (C1 [99,97,116] v3).bind fun v83=>
 (B4 n [99,97,116] 0 v83 [[9,4,1],[4]] v8.types v8.C2 [(w8.mk [115] v17 2 0 (get v9 0)),(w8.mk [110,112] v25 2 1 (get v9 1)),(w8.mk [118,112,45,105,118] v32 1 0 (get v9 2)),(w8.mk [118,112,45,116,118] v40 2 2 (get v9 3)),(w8.mk [118,112,45,110,111,116] v48 2 3 (get v9 4)),(w8.mk [110,112,45,97,110,100] v57 3 4 (get v9 5))] v82 []).bind fun v87=>
 (C1 [99,97,116] v3).bind fun v88=>
 (B4 n [99,97,116,115] 0 v88 [[9,4,1],[5]] v8.types v8.C2 [(w8.mk [115] v17 2 0 (get v9 0)),(w8.mk [110,112] v25 2 1 (get v9 1)),(w8.mk [118,112,45,105,118] v32 1 0 (get v9 2)),(w8.mk [118,112,45,116,118] v40 2 2 (get v9 3)),(w8.mk [118,112,45,110,111,116] v48 2 3 (get v9 4)),(w8.mk [110,112,45,97,110,100] v57 3 4 (get v9 5))] v87 []).bind fun v92=>
 (C1 [102,105,115,104] v3).bind fun v93=>
 (B4 n [102,105,115,104] 1 v93 [[9,4,1],[4]] v8.types v8.C2 [(w8.mk [115] v17 2 0 (get v9 0)),(w8.mk [110,112] v25 2 1 (get v9 1)),(w8.mk [118,112,45,105,118] v32 1 0 (get v9 2)),(w8.mk [118,112,45,116,118] v40 2 2 (get v9 3)),(w8.mk [118,112,45,110,111,116] v48 2 3 (get v9 4)),(w8.mk [110,112,45,97,110,100] v57 3 4 (get v9 5))] v92 []).bind fun v97=>
 (C1 [102,105,115,104] v3).bind fun v98=>
 (B4 n [102,105,115,104] 2 v98 [[9,4,1],[5]] v8.types v8.C2 [(w8.mk [115] v17 2 0 (get v9 0)),(w8.mk [110,112] v25 2 1 (get v9 1)),(w8.mk [118,112,45,105,118] v32 1 0 (get v9 2)),(w8.mk [118,112,45,116,118] v40 2 2 (get v9 3)),(w8.mk [118,112,45,110,111,116] v48 2 3 (get v9 4)),(w8.mk [110,112,45,97,110,100] v57 3 4 (get v9 5))] v97 []).bind fun v102=>
 (C1 [98,97,114,107] v3).bind fun v103=>
 (B4 n [98,97,114,107,115] 0 v103 [[11,4,1],[4]] v8.types v8.C2 [(w8.mk [115] v17 2 0 (get v9 0)),(w8.mk [110,112] v25 2 1 (get v9 1)),(w8.mk [118,112,45,105,118] v32 1 0 (get v9 2)),(w8.mk [118,112,45,116,118] v40 2 2 (get v9 3)),(w8.mk [118,112,45,110,111,116] v48 2 3 (get v9 4)),(w8.mk [110,112,45,97,110,100] v57 3 4 (get v9 5))] v102 []).bind fun v107=>
 (C1 [98,97,114,107] v3).bind fun v108=>
 (B4 n [98,97,114,107] 0 v108 [[11,4,1],[5]] v8.types v8.C2 [(w8.mk [115] v17 2 0 (get v9 0)),(w8.mk [110,112] v25 2 1 (get v9 1)),(w8.mk [118,112,45,105,118] v32 1 0 (get v9 2)),(w8.mk [118,112,45,116,118] v40 2 2 (get v9 3)),(w8.mk [118,112,45,110,111,116] v48 2 3 (get v9 4)),(w8.mk [110,112,45,97,110,100] v57 3 4 (get v9 5))] v107 []).bind fun v112=>
 (C1 [115,108,101,101,112] v3).bind fun v113=>
 (B4 n [115,108,101,101,112,115] 0 v113 [[11,4,1],[4]] v8.types v8.C2 [(w8.mk [115] v17 2 0 (get v9 0)),(w8.mk [110,112] v25 2 1 (get v9 1)),(w8.mk [118,112,45,105,118] v32 1 0 (get v9 2)),(w8.mk [118,112,45,116,118] v40 2 2 (get v9 3)),(w8.mk [118,112,45,110,111,116] v48 2 3 (get v9 4)),(w8.mk [110,112,45,97,110,100] v57 3 4 (get v9 5))] v112 []).bind fun v117=>
 (C1 [115,108,101,101,112] v3).bind fun v118=>
 (B4 n [115,108,101,101,112] 0 v118 [[11,4,1],[5]] v8.types v8.C2 [(w8.mk [115] v17 2 0 (get v9 0)),(w8.mk [110,112] v25 2 1 (get v9 1)),(w8.mk [118,112,45,105,118] v32 1 0 (get v9 2)),(w8.mk [118,112,45,116,118] v40 2 2 (get v9 3)),(w8.mk [118,112,45,110,111,116] v48 2 3 (get v9 4)),(w8.mk [110,112,45,97,110,100] v57 3 4 (get v9 5))] v117 []).bind fun v122=>
 (C1 [99,104,97,115,101] v4).bind fun v123=>
 (B4 n [99,104,97,115,101,115] 0 v123 [[12,4,1],[4]] v8.types v8.C2 [(w8.mk [115] v17 2 0 (get v9 0)),(w8.mk [110,112] v25 2 1 (get v9 1)),(w8.mk [118,112,45,105,118] v32 1 0 (get v9 2)),(w8.mk [118,112,45,116,118] v40 2 2 (get v9 3)),(w8.mk [118,112,45,110,111,116] v48 2 3 (get v9 4)),(w8.mk [110,112,45,97,110,100] v57 3 4 (get v9 5))] v122 []).bind fun v127=>
 (C1 [99,104,97,115,101] v4).bind fun v128=>
 (B4 n [99,104,97,115,101] 0 v128 [[12,4,1],[5]] v8.types v8.C2 [(w8.mk [115] v17 2 0 (get v9 0)),(w8.mk [110,112] v25 2 1 (get v9 1)),(w8.mk [118,112,45,105,118] v32 1 0 (get v9 2)),(w8.mk [118,112,45,116,118] v40 2 2 (get v9 3)),(w8.mk [118,112,45,110,111,116] v48 2 3 (get v9 4)),(w8.mk [110,112,45,97,110,100] v57 3 4 (get v9 5))] v127 []).bind fun v132=>
 (C1 [115,101,101] v4).bind fun v133=>
 (B4 n [115,101,101,115] 1 v133 [[12,4,1],[4]] v8.types v8.C2 [(w8.mk [115] v17 2 0 (get v9 0)),(w8.mk [110,112] v25 2 1 (get v9 1)),(w8.mk [118,112,45,105,118] v32 1 0 (get v9 2)),(w8.mk [118,112,45,116,118] v40 2 2 (get v9 3)),(w8.mk [118,112,45,110,111,116] v48 2 3 (get v9 4)),(w8.mk [110,112,45,97,110,100] v57 3 4 (get v9 5))] v132 []).bind fun v137=>
 (C1 [115,101,101] v4).bind fun v138=>
 (B4 n [115,101,101] 1 v138 [[12,4,1],[5]] v8.types v8.C2 [(w8.mk [115] v17 2 0 (get v9 0)),(w8.mk [110,112] v25 2 1 (get v9 1)),(w8.mk [118,112,45,105,118] v32 1 0 (get v9 2)),(w8.mk [118,112,45,116,118] v40 2 2 (get v9 3)),(w8.mk [118,112,45,110,111,116] v48 2 3 (get v9 4)),(w8.mk [110,112,45,97,110,100] v57 3 4 (get v9 5))] v137 []).bind fun v142=>
 (C8 v2 v2).bind fun v143=>
 (C1 [110,111,116] v143).bind fun v144=>
 (B4 n [110,111,116] 0 v144 [[13]] v8.types v8.C2 [(w8.mk [115] v17 2 0 (get v9 0)),(w8.mk [110,112] v25 2 1 (get v9 1)),(w8.mk [118,112,45,105,118] v32 1 0 (get v9 2)),(w8.mk [118,112,45,116,118] v40 2 2 (get v9 3)),(w8.mk [118,112,45,110,111,116] v48 2 3 (get v9 4)),(w8.mk [110,112,45,97,110,100] v57 3 4 (get v9 5))] v142 []).bind fun v147=>
 (C8 v2 v2).bind fun v148=>
 (C8 v2 v148).bind fun v149=>
 (C1 [97,110,100] v149).bind fun v150=>
 (B4 n [97,110,100] 0 v150 [[14]] v8.types v8.C2 [(w8.mk [115] v17 2 0 (get v9 0)),(w8.mk [110,112] v25 2 1 (get v9 1)),(w8.mk [118,112,45,105,118] v32 1 0 (get v9 2)),(w8.mk [118,112,45,116,118] v40 2 2 (get v9 3)),(w8.mk [118,112,45,110,111,116] v48 2 3 (get v9 4)),(w8.mk [110,112,45,97,110,100] v57 3 4 (get v9 5))] v147 []).bind fun v153=>
 (y5 0).bind fun v154=>
 (C1 [114,101,120] v1).bind fun v155=>
 (B8 v154 v155).bind fun v156=>
 (A8 v3 v156).bind fun v157=>
 (B4 n [114,101,120] 0 v157 [[7,4,1],[4]] v8.types v8.C2 [(w8.mk [115] v17 2 0 (get v9 0)),(w8.mk [110,112] v25 2 1 (get v9 1)),(w8.mk [118,112,45,105,118] v32 1 0 (get v9 2)),(w8.mk [118,112,45,116,118] v40 2 2 (get v9 3)),(w8.mk [118,112,45,110,111,116] v48 2 3 (get v9 4)),(w8.mk [110,112,45,97,110,100] v57 3 4 (get v9 5))] v153 []).bind fun v161=>
 (y5 0).bind fun v162=>
 (C1 [109,105,97] v1).bind fun v163=>
 (B8 v162 v163).bind fun v164=>
 (A8 v3 v164).bind fun v165=>
 (B4 n [109,105,97] 0 v165 [[7,4,1],[4]] v8.types v8.C2 [(w8.mk [115] v17 2 0 (get v9 0)),(w8.mk [110,112] v25 2 1 (get v9 1)),(w8.mk [118,112,45,105,118] v32 1 0 (get v9 2)),(w8.mk [118,112,45,116,118] v40 2 2 (get v9 3)),(w8.mk [118,112,45,110,111,116] v48 2 3 (get v9 4)),(w8.mk [110,112,45,97,110,100] v57 3 4 (get v9 5))] v161 []).bind fun v169=>
 (E4 n [[6]]).bind fun v172=>
 some (y7.mk v8 [(w8.mk [115] v17 2 0 (get v9 0)),(w8.mk [110,112] v25 2 1 (get v9 1)),(w8.mk [118,112,45,105,118] v32 1 0 (get v9 2)),(w8.mk [118,112,45,116,118] v40 2 2 (get v9 3)),(w8.mk [118,112,45,110,111,116] v48 2 3 (get v9 4)),(w8.mk [110,112,45,97,110,100] v57 3 4 (get v9 5))] v169 v172)
def H6(a0:Int)(a1:Int):Option (w5):=
 some (w5.mk a0 a1)
def jU(a0:Bs)(k0:Nat)(s0:Unit):Option (Ctl (Bool) (Unit) (Unit)):=
 bif (!(bif (bif (bif (bif (decide (97≤(y8 a0 (↑k0:Int))))then(decide ((y8 a0 (↑k0:Int))≤122))else false)then true else(bif (decide (48≤(y8 a0 (↑k0:Int))))then(decide ((y8 a0 (↑k0:Int))≤57))else false))then true else(decide ((y8 a0 (↑k0:Int))=95)))then true else(decide ((y8 a0 (↑k0:Int))=45))))then
  some (.ret false)
 else
  some (.nxt ())
def jV(t0:Unit):Option (Bool):=
 some true
def termName(a0:Bs):Option (Bool):=
 chk (fX (!(bif (decide ((↑a0.length:Int)=0))then true else(decide (30<(↑a0.length:Int))))) (0<(↑a0.length:Int))) <|
 chk (fX (!(bif (bif (decide ((↑a0.length:Int)=0))then true else(decide (30<(↑a0.length:Int))))then true else(decide ((y8 a0 0)<97)))) (0<(↑a0.length:Int))) <|
 bif (bif (bif (bif (decide ((↑a0.length:Int)=0))then true else(decide (30<(↑a0.length:Int))))then true else(decide ((y8 a0 0)<97)))then true else(decide (122<(y8 a0 0))))then
  some false
 else
  chk (a0.length≤9223372036854775807) <|
  C6 (E0 (jU a0) a0.length ()) (jV)
def cu(a0:(List x5))(k0:Nat)(k2:Nat)(s2:Int):Option (Ctl (Ctl (w5) ((List (Bs×Int))) ((List (Bs×Int)))) (Int) (Int)):=
 bif (bif (decide ((get ((get a0 k0).parents) k2)<0))then true else(decide ((↑k0:Int)≤(get ((get a0 k0).parents) k2))))then
  (H6 3 (↑k0:Int)).bind fun v20=>
  some (.ret (.ret v20))
 else
  bif (decide ((get ((get a0 k0).parents) k2)≤s2))then
   (H6 13 (↑k0:Int)).bind fun v21=>
   some (.ret (.ret v21))
  else
   some (.nxt (get ((get a0 k0).parents) k2))
def cw(c15:(List (Bs×Int)))(t2:Int):Option (Ctl (w5) ((List (Bs×Int))) ((List (Bs×Int)))):=
 some (.nxt c15)
def cr(a0:(List x5))(k0:Nat)(s0:(List (Bs×Int))):Option (Ctl (w5) ((List (Bs×Int))) ((List (Bs×Int)))):=
 (termName ((get a0 k0).name)).bind fun v12=>
 bif (!v12)then
  (H6 10 (↑k0:Int)).bind fun v13=>
  some (.ret v13)
 else
  bif (assoc ((get a0 k0).name) s0).isSome then
   (H6 7 (↑k0:Int)).bind fun v14=>
   some (.ret v14)
  else
   cR (I7 ((get a0 k0).name) (↑k0:Int) s0) fun c15=>
   bif (!decide ((decide ((↑k0:Int)=0))=(decide ((↑(((get a0 k0).parents).length):Int)=0))))then
    (H6 5 (↑k0:Int)).bind fun v17=>
    some (.ret v17)
   else
    C6 (E0 (cu a0 k0) (((get a0 k0).parents).length) (-1)) (cw c15)
def eW(t0:(List (Bs×Int))):Option (w5):=
 some (w5.mk 0 0)
def aZ(a0:(List x5)):Option (w5):=
 bif (bif (decide ((↑a0.length:Int)=0))then true else(decide (60<(↑a0.length:Int))))then
  (H6 2 (-1)).bind fun v1=>
  some v1
 else
  C6 (E0 (cr a0) a0.length []) (eW)
def bC(k0:Nat)(a0:(List x5))(k3:Nat)(s3:(List Int)):Option (Ctl (Ctl (A9) ((List Int)×(List Int)) ((List Int)×(List Int))) ((List Int)) ((List Int))):=
 chk ((↑k0:Int)<(↑s3.length:Int)) <|
 chk (0≤(get ((get a0 k0).parents) k3)∧(get ((get a0 k0).parents) k3)<(↑s3.length:Int)) <|
 cR (s3.set k0 (P3 .or .u64 (get s3 k0) (get s3 ((get ((get a0 k0).parents) k3).toNat)))) fun c86=>
 some (.nxt c86)
def bE(k0:Nat)(t3:(List Int))(k4:Nat)(s4:(List Int)):Option (Ctl (Ctl (A9) ((List Int)×(List Int)) ((List Int)×(List Int))) ((List Int)) ((List Int))):=
 chk ((↑k0:Int)<(↑t3.length:Int)) <|
 chk (0≤(↑k4:Int)) <|
 bif (decide ((P3 .and .u64 (Int.fdiv (get t3 k0) (2^(min k4 64))) 1)=1))then
  chk ((↑k4:Int)<(↑s4.length:Int)) <|
  cR (s4.set k4 (P3 .or .u64 (get s4 k4) (wr .u64 (1*2^(min k0 64))))) fun c110=>
  some (.nxt c110)
 else
  some (.nxt s4)
def bF(t3:(List Int))(t4:(List Int)):Option (Ctl (A9) ((List Int)×(List Int)) ((List Int)×(List Int))):=
 some (.nxt (t3,t4))
def bD(k0:Nat)(a0:(List x5))(s0:(List Int)×(List Int))(t3:(List Int)):Option (Ctl (A9) ((List Int)×(List Int)) ((List Int)×(List Int))):=
 C6 (E0 (bE k0 t3) a0.length s0.2) (bF t3)
def bB(a0:(List x5))(k0:Nat)(s0:(List Int)×(List Int)):Option (Ctl (A9) ((List Int)×(List Int)) ((List Int)×(List Int))):=
 chk (0≤(↑k0:Int)) <|
 chk ((↑k0:Int)<(↑s0.1.length:Int)) <|
 cR (s0.1.set k0 (wr .u64 (1*2^(min k0 64)))) fun c62=>
 C6 (E0 (bC k0 a0) (((get a0 k0).parents).length) c62) (bD k0 a0 s0)
def bG(t0:(List Int)×(List Int)):Option (A9):=
 some (A9.mk t0.1 t0.2)
def aB(a0:(List x5)):Option (A9):=
 chk (a0.length*8≤top∧a0.length≤top) <|
 C6 (E0 (bB a0) a0.length ((List.replicate a0.length (default:Int)),(List.replicate a0.length (default:Int)))) (bG)
def P6(a0:Int):Option (Int):=
 bif (decide (a0=0))then
  some 64
 else
  chk (0≤(Int.fdiv (wr .u64 ((P3 .and .u64 a0 (wr .u64 (0-a0)))*285870213051353865)) (2^(min 58 64)))∧(Int.fdiv (wr .u64 ((P3 .and .u64 a0 (wr .u64 (0-a0)))*285870213051353865)) (2^(min 58 64)))<64) <|
  some (wr .i64 (get Dv ((Int.fdiv (wr .u64 ((P3 .and .u64 a0 (wr .u64 (0-a0)))*285870213051353865)) (2^(min 58 64))).toNat)))
def Y6(a0:A9)(a1:Int)(a2:Int):Option (Int×Bool×Bool):=
 chk (0≤a1∧a1<(↑a0.down.length:Int)) <|
 chk (0≤a2∧a2<(↑a0.down.length:Int)) <|
 bif (decide ((P3 .and .u64 (get a0.down a1.toNat) (get a0.down a2.toNat))=0))then
  some (0,false,false)
 else
  (P6 (P3 .and .u64 (get a0.down a1.toNat) (get a0.down a2.toNat))).bind fun v5=>
  chk (0≤v5∧v5<(↑a0.down.length:Int)) <|
  bif (!decide ((get a0.down v5.toNat)=(P3 .and .u64 (get a0.down a1.toNat) (get a0.down a2.toNat))))then
   some (0,false,true)
  else
   some (v5,true,false)
def ah(v3:A9)(k0:Nat)(k1:Nat)(s1:Unit):Option (Ctl (Ctl (w5) (Unit) (Unit)) (Unit) (Unit)):=
 (Y6 v3 (↑k1:Int) (↑k0:Int)).bind fun v6=>
 bif v6.2.2 then
  (H6 16 (↑k0:Int)).bind fun v7=>
  some (.ret (.ret v7))
 else
  some (.nxt ())
def aj(t1:Unit):Option (Ctl (w5) (Unit) (Unit)):=
 some (.nxt ())
def Z9(v3:A9)(k0:Nat)(s0:Unit):Option (Ctl (w5) (Unit) (Unit)):=
 chk (k0≤9223372036854775807) <|
 C6 (E0 (ah v3 k0) k0 ()) (aj)
def Z8(a0:x7)(k2:Nat)(s2:(List (Bs×Int))):Option (Ctl (w5) ((List (Bs×Int))) ((List (Bs×Int)))):=
 (termName ((get a0.C2 k2).name)).bind fun v14=>
 bif (!v14)then
  (H6 10 (↑k2:Int)).bind fun v15=>
  some (.ret v15)
 else
  bif (assoc ((get a0.C2 k2).name) s2).isSome then
   (H6 7 (↑k2:Int)).bind fun v16=>
   some (.ret v16)
  else
   cR (I7 ((get a0.C2 k2).name) (↑k2:Int) s2) fun c17=>
   bif (bif (bif (bif (decide (((get a0.C2 k2).of_)<0))then true else(decide ((↑a0.types.length:Int)≤((get a0.C2 k2).of_))))then true else(decide (((get a0.C2 k2).value)<0)))then true else(decide ((↑a0.types.length:Int)≤((get a0.C2 k2).value))))then
    (H6 3 (↑k2:Int)).bind fun v19=>
    some (.ret v19)
   else
    some (.nxt c17)
def cM(t2:(List (Bs×Int))):Option (w5):=
 some (w5.mk 0 0)
def U7(a0:x7)(t0:Unit):Option (w5):=
 C6 (E0 (Z8 a0) a0.C2.length []) (cM)
def aC(a0:x7):Option (w5):=
 bif (bif (bif (decide ((↑a0.types.length:Int)=0))then true else(decide (60<(↑a0.types.length:Int))))then true else(decide (40<(↑a0.C2.length:Int))))then
  (H6 2 (-1)).bind fun v1=>
  some v1
 else
  (aZ a0.types).bind fun v2=>
  bif (!decide (v2.code=0))then
   some v2
  else
   (aB a0.types).bind fun v3=>
   chk (a0.types.length≤9223372036854775807) <|
   C6 (E0 (Z9 v3) a0.types.length ()) (U7 a0)
def V7(a0:Int)(a1:Int):Option (w5):=
 some (w5.mk a0 a1)
def cj(a0:Int)(a1:Int):Option (w5):=
 some (w5.mk a0 a1)
def gu(a1:B0)(k0:Nat)(a0:x7)(k2:Nat)(s2:Int):Option (Ctl (Ctl (w5) (Unit) (Unit)) (Int) (Int)):=
 bif (bif (bif (bif (decide (((get ((get a1.nodes k0).links) k2).eL)<0))then true else(decide ((↑a0.C2.length:Int)≤((get ((get a1.nodes k0).links) k2).eL))))then true else(decide (((get ((get a1.nodes k0).links) k2).to_)<0)))then true else(decide ((↑a1.nodes.length:Int)≤((get ((get a1.nodes k0).links) k2).to_))))then
  (cj 3 (↑k0:Int)).bind fun v10=>
  some (.ret (.ret v10))
 else
  bif (decide (((get ((get a1.nodes k0).links) k2).eL)≤s2))then
   (cj 13 (↑k0:Int)).bind fun v11=>
   some (.ret (.ret v11))
  else
   some (.nxt ((get ((get a1.nodes k0).links) k2).eL))
def gy(t2:Int):Option (Ctl (w5) (Unit) (Unit)):=
 some (.nxt ())
def gq(a1:B0)(a0:x7)(k0:Nat)(s0:Unit):Option (Ctl (w5) (Unit) (Unit)):=
 bif (bif (decide (((get a1.nodes k0).type)<0))then true else(decide ((↑a0.types.length:Int)≤((get a1.nodes k0).type))))then
  (cj 3 (↑k0:Int)).bind fun v7=>
  some (.ret v7)
 else
  C6 (E0 (gu a1 k0 a0) (((get a1.nodes k0).links).length) (-1)) (gy)
def jZ(t0:Unit):Option (w5):=
 some (w5.mk 0 0)
def jy(a0:x7)(a1:B0):Option (w5):=
 bif (bif (decide ((↑a1.nodes.length:Int)=0))then true else(decide (60<(↑a1.nodes.length:Int))))then
  (cj 2 (-2)).bind fun v1=>
  some v1
 else
  C6 (E0 (gq a1 a0) a1.nodes.length ()) (jZ)
def W0(a0:A9)(a1:Int)(a2:Int):Option (Bool):=
 chk (0≤a1∧a1<(↑a0.up.length:Int)) <|
 chk (0≤a2) <|
 some (decide ((P3 .and .u64 (Int.fdiv (get a0.up a1.toNat) (2^(min a2.toNat 64))) 1)=1))
def X3(a1:Bool)(a0:(List Bool))(k0:Nat)(s0:Unit):Option (Ctl (Int) (Unit) (Unit)):=
 bif (decide (a1=(get a0 k0)))then
  some (.ret (↑k0:Int))
 else
  some (.nxt ())
def bn(t0:Unit):Option (Int):=
 some (-1)
def I0(a0:(List Bool))(a1:Bool):Option (Int):=
 C6 (E0 (X3 a1 a0) a0.length ()) (bn)
def cA(a0:B0)(s0:(List Bool)×(List Int)×Nat)(k2:Nat)(s2:(List Bool)×(List Int)×Nat):Option (Ctl (Ctl (Int) ((List Bool)×(List Int)×Nat) ((List Bool))) ((List Bool)×(List Int)×Nat) ((List Bool)×(List Int)×Nat)):=
 chk (0≤(get ((get a0.nodes ((get s0.2.1 ((wr .i64 ((↑s0.2.2:Int)-1)).toNat)).toNat)).links) k2).to_∧(get ((get a0.nodes ((get s0.2.1 ((wr .i64 ((↑s0.2.2:Int)-1)).toNat)).toNat)).links) k2).to_<(↑s2.1.length:Int)) <|
 bif (!(get s2.1 (((get ((get a0.nodes ((get s0.2.1 ((wr .i64 ((↑s0.2.2:Int)-1)).toNat)).toNat)).links) k2).to_).toNat)))then
  cR (s2.1.set (((get ((get a0.nodes ((get s0.2.1 ((wr .i64 ((↑s0.2.2:Int)-1)).toNat)).toNat)).links) k2).to_).toNat) true) fun c79=>
  chk (s2.2.2≤s2.2.1.length) <|
  cR ((s2.2.1.take s2.2.2)++[(get ((get a0.nodes ((get s0.2.1 ((wr .i64 ((↑s0.2.2:Int)-1)).toNat)).toNat)).links) k2).to_]) fun c84=>
  chk (c84.length*8≤top∧c84.length≤top) <|
  some (.nxt (c79,c84,c84.length))
 else
  some (.nxt (s2.1,s2.2.1,s2.2.2))
def cB(t2:(List Bool)×(List Int)×Nat):Option (Ctl (Int) ((List Bool)×(List Int)×Nat) ((List Bool))):=
 some (.nxt (t2.1,t2.2.1,t2.2.2))
def cx(a0:B0)(s0:(List Bool)×(List Int)×Nat):Option (Ctl (Int) ((List Bool)×(List Int)×Nat) ((List Bool))):=
 bif (decide (0<(↑s0.2.2:Int)))then
  chk (s0.2.2≤s0.2.1.length) <|
  chk (0≤(wr .i64 ((↑s0.2.2:Int)-1))∧(wr .i64 ((↑s0.2.2:Int)-1))<(↑s0.2.2:Int)) <|
  chk ((wr .i64 ((↑s0.2.2:Int)-1)).toNat≤s0.2.2) <|
  chk (0≤(get s0.2.1 ((wr .i64 ((↑s0.2.2:Int)-1)).toNat))∧(get s0.2.1 ((wr .i64 ((↑s0.2.2:Int)-1)).toNat))<(↑a0.nodes.length:Int)) <|
  C6 (E0 (cA a0 s0) (((get a0.nodes ((get s0.2.1 ((wr .i64 ((↑s0.2.2:Int)-1)).toNat)).toNat)).links).length) (s0.1,s0.2.1,(wr .i64 ((↑s0.2.2:Int)-1)).toNat)) (cB)
 else
  some (.brk s0.1)
def cC(t0:(List Bool)):Option (Int):=
 (I0 t0 false).bind fun v89=>
 some v89
def bf(n:Nat)(a0:B0):Option (Int):=
 chk (a0.nodes.length*1≤top∧a0.nodes.length≤top) <|
 chk (0<(↑a0.nodes.length:Int)) <|
 cR ((List.replicate a0.nodes.length (default:Bool)).set 0 true) fun c7=>
 C6 (V9 (cx a0) n (c7,[0],1)) (cC)
def fh(a2:B0)(k0:Nat)(a0:x7)(a1:A9)(k2:Nat)(s2:Unit):Option (Ctl (Ctl (w5) (Unit) (Unit)) (Unit) (Unit)):=
 chk (0≤(get ((get a2.nodes k0).links) k2).eL∧(get ((get a2.nodes k0).links) k2).eL<(↑a0.C2.length:Int)) <|
 (W0 a1 ((get a2.nodes k0).type) ((get a0.C2 (((get ((get a2.nodes k0).links) k2).eL).toNat)).of_)).bind fun v28=>
 chk (fX (!(!v28)) (0≤(get ((get a2.nodes k0).links) k2).to_)∧fX (!(!v28)) ((get ((get a2.nodes k0).links) k2).to_<(↑a2.nodes.length:Int))) <|
 (gd (!(!v28)) (W0 a1 ((get a2.nodes (((get ((get a2.nodes k0).links) k2).to_).toNat)).type) ((get a0.C2 (((get ((get a2.nodes k0).links) k2).eL).toNat)).value)) default).bind fun v32=>
 bif (bif (!v28)then true else(!v32))then
  (cj 12 (↑k0:Int)).bind fun v33=>
  some (.ret (.ret v33))
 else
  some (.nxt ())
def fj(t2:Unit):Option (Ctl (w5) (Unit) (Unit)):=
 some (.nxt ())
def eZ(a2:B0)(a0:x7)(a1:A9)(k0:Nat)(s0:Unit):Option (Ctl (w5) (Unit) (Unit)):=
 C6 (E0 (fh a2 k0 a0 a1) (((get a2.nodes k0).links).length) ()) (fj)
def fq(n:Nat)(a2:B0)(t0:Unit):Option (w5):=
 (bf n a2).bind fun v34=>
 bif (decide (0≤v34))then
  (cj 5 v34).bind fun v35=>
  some v35
 else
  some (w5.mk 0 0)
def dA(n:Nat)(a0:x7)(a1:A9)(a2:B0):Option (w5):=
 (jy a0 a2).bind fun v1=>
 bif (!decide (v1.code=0))then
  some v1
 else
  C6 (E0 (eZ a2 a0 a1) a2.nodes.length ()) (fq n a2)
def kd(a0:Int):Option (Bool):=
 some false
def eA(a0:Int)(a1:Int):Option (Int):=
 (kd a0).bind fun v1=>
 (kd a1).bind fun v2=>
 bif v1 then
  bif v2 then
   some 0
  else
   some (-1)
 else
  bif v2 then
   some 1
  else
   bif (decide (a0<a1))then
    some (-1)
   else
    bif (decide (a1<a0))then
     some 1
    else
     some 0
def dP(a0:D9)(a1:Int):Option (Int):=
 (eA a0.eL a1).bind fun v1=>
 some v1
def F1(a0:(List D9))(a1:Int)(s0:Int×Int):Option (Ctl (Int×Bool) (Int×Int) (Int)):=
 bif (decide (s0.2<s0.1))then
  chk (0≤(wr .i64 (Int.fdiv (wr .u64 (wr .i64 (s0.2+s0.1))) (2^(min 1 64))))∧(wr .i64 (Int.fdiv (wr .u64 (wr .i64 (s0.2+s0.1))) (2^(min 1 64))))<(↑a0.length:Int)) <|
  (dP (get a0 ((wr .i64 (Int.fdiv (wr .u64 (wr .i64 (s0.2+s0.1))) (2^(min 1 64)))).toNat)) a1).bind fun v6=>
  bif (decide (v6<0))then
   some (.nxt (s0.1,(wr .i64 ((wr .i64 (Int.fdiv (wr .u64 (wr .i64 (s0.2+s0.1))) (2^(min 1 64))))+1))))
  else
   some (.nxt ((wr .i64 (Int.fdiv (wr .u64 (wr .i64 (s0.2+s0.1))) (2^(min 1 64)))),s0.2))
 else
  some (.brk s0.2)
def F2(a0:(List D9))(a1:Int)(t0:Int):Option (Int×Bool):=
 chk (fX (decide (t0<(↑a0.length:Int))) (0≤t0)∧fX (decide (t0<(↑a0.length:Int))) (t0<(↑a0.length:Int))) <|
 (gd (decide (t0<(↑a0.length:Int))) (dP (get a0 t0.toNat) a1) default).bind fun v10=>
 some (t0,(bif (decide (t0<(↑a0.length:Int)))then(decide (v10=0))else false))
def E5(n:Nat)(a0:(List D9))(a1:Int):Option (Int×Bool):=
 C6 (V9 (F1 a0 a1) n ((↑a0.length:Int),0)) (F2 a0 a1)
def dB(n:Nat)(a0:B0)(a1:Int)(a2:Int):Option (Int):=
 chk (0≤a1∧a1<(↑a0.nodes.length:Int)) <|
 (E5 n ((get a0.nodes a1.toNat).links) a2).bind fun v3=>
 bif (!v3.2)then
  some (-1)
 else
  chk (0≤v3.1∧v3.1<(↑(((get a0.nodes a1.toNat).links).length):Int)) <|
  some ((get ((get a0.nodes a1.toNat).links) v3.1.toNat).to_)
def U2(n:Nat)(a0:B0)(a1:Int)(k0:Nat)(s0:Unit):Option (Ctl (Bool) (Unit) (Unit)):=
 (dB n a0 0 (↑k0:Int)).bind fun v1=>
 bif (!decide ((decide (0≤v1))=(decide ((↑k0:Int)≤a1))))then
  some (.ret false)
 else
  some (.nxt ())
def dg(t0:Unit):Option (Bool):=
 some true
def aL(n:Nat)(a0:B0)(a1:Int):Option (Bool):=
 C6 (E0 (U2 n a0 a1) 4 ()) (dg)
def I8(a0:Int)(S5:Int):Option (w5):=
 some (w5.mk a0 S5)
def bH(self:(u0)→(Int)→(Int)→Option (Int×Int))(a0:u0)(a1:Int)(k0:Nat)(s0:Int):Option (Ctl (Int×Int) (Int) (Int)):=
 (self (get a0.args k0) (wr .i64 (a1+1)) s0).bind fun v2=>
 bif (!decide (v2.1=0))then
  some (.ret (v2.1,v2.2))
 else
  some (.nxt v2.2)
def bI(t0:Int):Option (Int×Int):=
 some (0,t0)
def W3:Nat→(u0)→(Int)→(Int)→Option (Int×Int)
 |0,_,_,_=>none
 |n+1,a0,a1,S5=>
  bif (bif (decide (200<(wr .i64 (S5+1))))then true else(decide (40<a1)))then
   some (1,(wr .i64 (S5+1)))
  else
   bif (!(bif (bif (bif (decide (a0.base=[101]))then true else(decide (a0.base=[116])))then(decide ((↑a0.args.length:Int)=0))else false)then true else(bif (decide (a0.base=[]))then(decide ((↑a0.args.length:Int)=2))else false)))then
    some (5,(wr .i64 (S5+1)))
   else
    C6 (E0 (bH (W3 n) a0 a1) a0.args.length (wr .i64 (S5+1))) (bI)
def bg(n:Nat)(a0:u0):Option (w5):=
 (W3 n a0 1 0).bind fun v1=>
 some (w5.mk v1.1 0)
def lP(a0:u0):Option (Bool):=
 some (bif (decide (a0.base=[]))then(decide ((↑a0.args.length:Int)=0))else false)
def Z1:Nat→(w6)→(Int)→(Int)→(Int)→Option (w5×Int)
 |0,_,_,_,_=>none
 |n+1,a0,a1,a2,S5=>
  bif (bif (decide (200<(wr .i64 (S5+1))))then true else(decide (40<a1)))then
   (I8 1 S5).bind fun v1=>
   some (v1,(wr .i64 (S5+1)))
  else
   bif (decide (a0.kind=1))then
    bif (bif (!decide (a0.index=0))then true else(!decide ((↑a0.args.length:Int)=0)))then
     (I8 5 S5).bind fun v2=>
     some (v2,(wr .i64 (S5+1)))
    else
     (termName a0.name).bind fun v3=>
     bif (!v3)then
      (I8 10 S5).bind fun v4=>
      some (v4,(wr .i64 (S5+1)))
     else
      (bg n a0.type).bind fun v5=>
      bif (!decide (v5.code=0))then
       (I8 12 S5).bind fun v6=>
       some (v6,(wr .i64 (S5+1)))
      else
       some ((w5.mk 0 0),(wr .i64 (S5+1)))
   else
    bif (decide (a0.kind=2))then
     (gd (!(!decide (a0.name=[]))) (lP a0.type) default).bind fun v7=>
     bif (bif (bif (!decide (a0.name=[]))then true else(!v7))then true else(!decide ((↑a0.args.length:Int)=0)))then
      (I8 5 S5).bind fun v8=>
      some (v8,(wr .i64 (S5+1)))
     else
      bif (bif (decide (a0.index<0))then true else(decide (a2≤a0.index)))then
       (I8 15 S5).bind fun v9=>
       some (v9,(wr .i64 (S5+1)))
      else
       some ((w5.mk 0 0),(wr .i64 (S5+1)))
    else
     bif (decide (a0.kind=3))then
      bif (bif (bif (!decide (a0.name=[]))then true else(!decide (a0.index=0)))then true else(!decide ((↑a0.args.length:Int)=1)))then
       (I8 5 S5).bind fun v10=>
       some (v10,(wr .i64 (S5+1)))
      else
       (bg n a0.type).bind fun v11=>
       bif (!decide (v11.code=0))then
        (I8 12 S5).bind fun v12=>
        some (v12,(wr .i64 (S5+1)))
       else
        chk (0<(↑a0.args.length:Int)) <|
        (Z1 n (get a0.args 0) (wr .i64 (a1+1)) (wr .i64 (a2+1)) (wr .i64 (S5+1))).bind fun v14=>
        some (v14.1,v14.2)
     else
      bif (decide (a0.kind=4))then
       (gd (!(bif (!decide (a0.name=[]))then true else(!decide (a0.index=0)))) (lP a0.type) default).bind fun v15=>
       bif (bif (bif (bif (!decide (a0.name=[]))then true else(!decide (a0.index=0)))then true else(!v15))then true else(!decide ((↑a0.args.length:Int)=2)))then
        (I8 5 S5).bind fun v16=>
        some (v16,(wr .i64 (S5+1)))
       else
        chk (0<(↑a0.args.length:Int)) <|
        (Z1 n (get a0.args 0) (wr .i64 (a1+1)) a2 (wr .i64 (S5+1))).bind fun v18=>
        bif (!decide (v18.1.code=0))then
         some (v18.1,v18.2)
        else
         chk (1<(↑a0.args.length:Int)) <|
         (Z1 n (get a0.args 1) (wr .i64 (a1+1)) a2 v18.2).bind fun v20=>
         some (v20.1,v20.2)
      else
       (I8 4 S5).bind fun v21=>
       some (v21,(wr .i64 (S5+1)))
def gA(self:(u0)→(u0)→Option (Bool))(a1:u0)(a0:u0)(k0:Nat)(s0:Unit):Option (Ctl (Bool) (Unit) (Unit)):=
 chk ((↑k0:Int)<(↑a1.args.length:Int)) <|
 (self (get a0.args k0) (get a1.args k0)).bind fun v3=>
 bif (!v3)then
  some (.ret false)
 else
  some (.nxt ())
def gB(t0:Unit):Option (Bool):=
 some true
def aD:Nat→(u0)→(u0)→Option (Bool)
 |0,_,_=>none
 |n+1,a0,a1=>
  bif (bif (!decide (a0.base=a1.base))then true else(!decide ((↑a0.args.length:Int)=(↑a1.args.length:Int))))then
   some false
  else
   chk (a0.args.length≤9223372036854775807) <|
   C6 (E0 (gA (aD n) a1 a0) a0.args.length ()) (gB)
def W5:Nat→(w6)→((List u0))→Option (u0×Bool)
 |0,_,_=>none
 |n+1,a0,l0=>
  bif (decide (a0.kind=1))then
   some (a0.type,true)
  else
   bif (decide (a0.kind=2))then
    chk (0≤(wr .i64 ((wr .i64 ((↑l0.length:Int)-1))-a0.index))∧(wr .i64 ((wr .i64 ((↑l0.length:Int)-1))-a0.index))<(↑l0.length:Int)) <|
    some ((get l0 ((wr .i64 ((wr .i64 ((↑l0.length:Int)-1))-a0.index)).toNat)),true)
   else
    bif (decide (a0.kind=3))then
     chk (0≤(↑l0.length:Int)∧0≤(↑l0.length:Int)) <|
     cR (l0++[a0.type]) fun c8=>
     chk (c8.length*40≤top∧c8.length≤top) <|
     chk (0<(↑a0.args.length:Int)) <|
     (W5 n (get a0.args 0) c8).bind fun v14=>
     some ((u0.mk [] [a0.type,v14.1]),v14.2)
    else
     chk (0<(↑a0.args.length:Int)) <|
     (W5 n (get a0.args 0) l0).bind fun v17=>
     chk (1<(↑a0.args.length:Int)) <|
     (W5 n (get a0.args 1) l0).bind fun v19=>
     chk (fX (!(bif (bif (!v17.2)then true else(!v19.2))then true else(!decide ((↑v17.1.args.length:Int)=2)))) (0<(↑v17.1.args.length:Int))) <|
     (gd (!(bif (bif (!v17.2)then true else(!v19.2))then true else(!decide ((↑v17.1.args.length:Int)=2)))) (aD n (get v17.1.args 0) v19.1) default).bind fun v22=>
     bif (bif (bif (bif (!v17.2)then true else(!v19.2))then true else(!decide ((↑v17.1.args.length:Int)=2)))then true else(!v22))then
      some ((u0.mk [] []),false)
     else
      chk (1<(↑v17.1.args.length:Int)) <|
      some ((get v17.1.args 1),true)
def cU:Nat→(w6)→((List u0))→Option (u0×Bool)
 |0,_,_=>none
 |n+1,a0,a1=>
  bif (decide (a0.kind=1))then
   some (a0.type,true)
  else
   bif (decide (a0.kind=2))then
    chk (0≤(wr .i64 ((wr .i64 ((↑a1.length:Int)-1))-a0.index))∧(wr .i64 ((wr .i64 ((↑a1.length:Int)-1))-a0.index))<(↑a1.length:Int)) <|
    some ((get a1 ((wr .i64 ((wr .i64 ((↑a1.length:Int)-1))-a0.index)).toNat)),true)
   else
    bif (decide (a0.kind=3))then
     chk (0≤(↑a1.length:Int)∧0≤(↑a1.length:Int)) <|
     cR (a1++[a0.type]) fun c6=>
     chk (c6.length*40≤top∧c6.length≤top) <|
     chk (0<(↑a0.args.length:Int)) <|
     (W5 n (get a0.args 0) c6).bind fun v12=>
     some ((u0.mk [] [a0.type,v12.1]),v12.2)
    else
     chk (0<(↑a0.args.length:Int)) <|
     (cU n (get a0.args 0) a1).bind fun v15=>
     chk (1<(↑a0.args.length:Int)) <|
     (cU n (get a0.args 1) a1).bind fun v17=>
     chk (fX (!(bif (bif (!v15.2)then true else(!v17.2))then true else(!decide ((↑v15.1.args.length:Int)=2)))) (0<(↑v15.1.args.length:Int))) <|
     (gd (!(bif (bif (!v15.2)then true else(!v17.2))then true else(!decide ((↑v15.1.args.length:Int)=2)))) (aD n (get v15.1.args 0) v17.1) default).bind fun v20=>
     bif (bif (bif (bif (!v15.2)then true else(!v17.2))then true else(!decide ((↑v15.1.args.length:Int)=2)))then true else(!v20))then
      some ((u0.mk [] []),false)
     else
      chk (1<(↑v15.1.args.length:Int)) <|
      some ((get v15.1.args 1),true)
def bS(n:Nat)(a0:w6):Option (w5):=
 (Z1 n a0 1 0 0).bind fun v1=>
 bif (!decide (v1.1.code=0))then
  some v1.1
 else
  (cU n a0 []).bind fun v2=>
  bif (!v2.2)then
   some (w5.mk 12 (-1))
  else
   some (w5.mk 0 0)
def hB(n:Nat)(a0:x7)(a1:A9)(a2:w8):Option (Int):=
 bif (bif (bif (bif (decide (a2.kids<1))then true else(decide (3<a2.kids)))then true else(decide (a2.weight<0)))then true else(decide (1000000<a2.weight)))then
  some 3
 else
  (dA n a0 a1 a2.graph).bind fun v1=>
  bif (!decide (v1.code=0))then
   some v1.code
  else
   (aL n a2.graph a2.kids).bind fun v2=>
   bif (!v2)then
    some 5
   else
    (bS n a2.meaning).bind fun v3=>
    some v3.code
def K8(a0:Bs)(s0:Nat×Int):Option (Ctl (Int) (Nat×Int) (Int)):=
 bif (decide (s0.1<a0.length))then
  some (.nxt ((s0.1+fD a0 s0.1),(wr .i64 (s0.2+1))))
 else
  some (.brk s0.2)
def S2(t0:Int):Option (Int):=
 some t0
def J5(n:Nat)(a0:Bs):Option (Int):=
 C6 (V9 (K8 a0) n (0,0)) (S2)
def E6(a0:Bs):Option (Int):=
 bif false then
  chk (0<(↑a0.length:Int)) <|
  chk (1<(↑a0.length:Int)) <|
  chk (2<(↑a0.length:Int)) <|
  chk (3<(↑a0.length:Int)) <|
  some (P3 .or .u64 (P3 .or .u64 (P3 .or .u64 (wr .u64 (y8 a0 0)) (wr .u64 ((wr .u64 (y8 a0 1))*2^(min 8 64)))) (wr .u64 ((wr .u64 (y8 a0 2))*2^(min 16 64)))) (wr .u64 ((wr .u64 (y8 a0 3))*2^(min 24 64))))
 else
  chk (0<(↑a0.length:Int)) <|
  chk (1<(↑a0.length:Int)) <|
  chk (2<(↑a0.length:Int)) <|
  chk (3<(↑a0.length:Int)) <|
  chk (4<(↑a0.length:Int)) <|
  chk (5<(↑a0.length:Int)) <|
  chk (6<(↑a0.length:Int)) <|
  chk (7<(↑a0.length:Int)) <|
  some (P3 .or .u64 (P3 .or .u64 (P3 .or .u64 (P3 .or .u64 (P3 .or .u64 (P3 .or .u64 (P3 .or .u64 (wr .u64 (y8 a0 0)) (wr .u64 ((wr .u64 (y8 a0 1))*2^(min 8 64)))) (wr .u64 ((wr .u64 (y8 a0 2))*2^(min 16 64)))) (wr .u64 ((wr .u64 (y8 a0 3))*2^(min 24 64)))) (wr .u64 ((wr .u64 (y8 a0 4))*2^(min 32 64)))) (wr .u64 ((wr .u64 (y8 a0 5))*2^(min 40 64)))) (wr .u64 ((wr .u64 (y8 a0 6))*2^(min 48 64)))) (wr .u64 ((wr .u64 (y8 a0 7))*2^(min 56 64))))
def I9(j3:Bs):Option (Ctl (Bool) (Bs) (Unit)):=
 some (.nxt j3)
def M5(s4:Bs):Option (Ctl (Ctl (Bool) (Bs) (Unit)) (Bs) (Bs)):=
 (gd (decide (32<(↑s4.length:Int))) (E6 s4) default).bind fun v100=>
 chk (fX (decide (32<(↑s4.length:Int))) (8≤s4.length)) <|
 (gd (decide (32<(↑s4.length:Int))) (E6 (s4.drop 8)) default).bind fun v103=>
 chk (fX (decide (32<(↑s4.length:Int))) (16≤s4.length)) <|
 (gd (decide (32<(↑s4.length:Int))) (E6 (s4.drop 16)) default).bind fun v106=>
 chk (fX (decide (32<(↑s4.length:Int))) (0≤24)∧fX (decide (32<(↑s4.length:Int))) (24≤s4.length)) <|
 (gd (decide (32<(↑s4.length:Int))) (E6 (s4.drop 24)) default).bind fun v110=>
 bif (bif (decide (32<(↑s4.length:Int)))then(decide ((P3 .and .u64 (P3 .or .u64 (P3 .or .u64 v100 v103) (P3 .or .u64 v106 v110)) 9259542123273814144)=0))else false)then
  chk (0≤32∧32≤s4.length) <|
  some (.nxt (s4.drop 32))
 else
  some (.brk s4)
def S6(t4:Bs):Option (Ctl (Bool) (Bs) (Unit)):=
 I9 t4
def M6(n:Nat)(s0:Bs):Option (Ctl (Bool) (Bs) (Unit)):=
 bif (decide (0<(↑s0.length:Int)))then
  chk (0<(↑s0.length:Int)) <|
  bif (decide ((y8 s0 0)<128))then
   chk (0≤1∧1≤s0.length) <|
   (gd (decide (8<(↑((s0.drop 1).length):Int))) (E6 (s0.drop 1)) default).bind fun v78=>
   bif (bif (decide (8<(↑((s0.drop 1).length):Int)))then(decide ((P3 .and .u64 v78 9259542123273814144)=0))else false)then
    chk (0≤8∧8≤(s0.drop 1).length) <|
    (gd (decide (16<(↑(((s0.drop 1).drop 8).length):Int))) (E6 ((s0.drop 1).drop 8)) default).bind fun v81=>
    chk (fX (decide (16<(↑(((s0.drop 1).drop 8).length):Int))) (8≤((s0.drop 1).drop 8).length)) <|
    (gd (decide (16<(↑(((s0.drop 1).drop 8).length):Int))) (E6 (((s0.drop 1).drop 8).drop 8)) default).bind fun v84=>
    bif (bif (decide (16<(↑(((s0.drop 1).drop 8).length):Int)))then(decide ((P3 .and .u64 (P3 .or .u64 v81 v84) 9259542123273814144)=0))else false)then
     chk (0≤16∧16≤((s0.drop 1).drop 8).length) <|
     C6 (V9 (M5) n (((s0.drop 1).drop 8).drop 16)) (S6)
    else
     I9 ((s0.drop 1).drop 8)
   else
    I9 (s0.drop 1)
  else
   chk (0≤(y8 s0 0)∧(y8 s0 0)<256) <|
   chk (0≤(Int.fdiv (get jv ((y8 s0 0).toNat)) (2^(min 4 8)))∧(Int.fdiv (get jv ((y8 s0 0).toNat)) (2^(min 4 8)))<16) <|
   bif (decide ((wr .i64 (P3 .and .u8 (get jv ((y8 s0 0).toNat)) 7))=2))then
    chk (fX (!(decide ((↑s0.length:Int)<2))) (1<(↑s0.length:Int))) <|
    chk (fX (!(bif (decide ((↑s0.length:Int)<2))then true else(decide ((y8 s0 1)<((get mR ((Int.fdiv (get jv ((y8 s0 0).toNat)) (2^(min 4 8))).toNat)).lo))))) (1<(↑s0.length:Int))) <|
    bif (bif (bif (decide ((↑s0.length:Int)<2))then true else(decide ((y8 s0 1)<((get mR ((Int.fdiv (get jv ((y8 s0 0).toNat)) (2^(min 4 8))).toNat)).lo))))then true else(decide (((get mR ((Int.fdiv (get jv ((y8 s0 0).toNat)) (2^(min 4 8))).toNat)).hi)<(y8 s0 1))))then
     some (.ret false)
    else
     chk (0≤2∧2≤s0.length) <|
     some (.nxt (s0.drop 2))
   else
    bif (decide ((wr .i64 (P3 .and .u8 (get jv ((y8 s0 0).toNat)) 7))=3))then
     chk (fX (!(decide ((↑s0.length:Int)<3))) (1<(↑s0.length:Int))) <|
     chk (fX (!(bif (decide ((↑s0.length:Int)<3))then true else(decide ((y8 s0 1)<((get mR ((Int.fdiv (get jv ((y8 s0 0).toNat)) (2^(min 4 8))).toNat)).lo))))) (1<(↑s0.length:Int))) <|
     chk (fX (!(bif (bif (decide ((↑s0.length:Int)<3))then true else(decide ((y8 s0 1)<((get mR ((Int.fdiv (get jv ((y8 s0 0).toNat)) (2^(min 4 8))).toNat)).lo))))then true else(decide (((get mR ((Int.fdiv (get jv ((y8 s0 0).toNat)) (2^(min 4 8))).toNat)).hi)<(y8 s0 1))))) (2<(↑s0.length:Int))) <|
     chk (fX (!(bif (bif (bif (decide ((↑s0.length:Int)<3))then true else(decide ((y8 s0 1)<((get mR ((Int.fdiv (get jv ((y8 s0 0).toNat)) (2^(min 4 8))).toNat)).lo))))then true else(decide (((get mR ((Int.fdiv (get jv ((y8 s0 0).toNat)) (2^(min 4 8))).toNat)).hi)<(y8 s0 1))))then true else(decide ((y8 s0 2)<128)))) (2<(↑s0.length:Int))) <|
     bif (bif (bif (bif (bif (decide ((↑s0.length:Int)<3))then true else(decide ((y8 s0 1)<((get mR ((Int.fdiv (get jv ((y8 s0 0).toNat)) (2^(min 4 8))).toNat)).lo))))then true else(decide (((get mR ((Int.fdiv (get jv ((y8 s0 0).toNat)) (2^(min 4 8))).toNat)).hi)<(y8 s0 1))))then true else(decide ((y8 s0 2)<128)))then true else(decide (191<(y8 s0 2))))then
      some (.ret false)
     else
      chk (0≤3∧3≤s0.length) <|
      some (.nxt (s0.drop 3))
    else
     bif (decide ((wr .i64 (P3 .and .u8 (get jv ((y8 s0 0).toNat)) 7))=4))then
      chk (fX (!(decide ((↑s0.length:Int)<4))) (1<(↑s0.length:Int))) <|
      chk (fX (!(bif (decide ((↑s0.length:Int)<4))then true else(decide ((y8 s0 1)<((get mR ((Int.fdiv (get jv ((y8 s0 0).toNat)) (2^(min 4 8))).toNat)).lo))))) (1<(↑s0.length:Int))) <|
      chk (fX (!(bif (bif (decide ((↑s0.length:Int)<4))then true else(decide ((y8 s0 1)<((get mR ((Int.fdiv (get jv ((y8 s0 0).toNat)) (2^(min 4 8))).toNat)).lo))))then true else(decide (((get mR ((Int.fdiv (get jv ((y8 s0 0).toNat)) (2^(min 4 8))).toNat)).hi)<(y8 s0 1))))) (2<(↑s0.length:Int))) <|
      chk (fX (!(bif (bif (bif (decide ((↑s0.length:Int)<4))then true else(decide ((y8 s0 1)<((get mR ((Int.fdiv (get jv ((y8 s0 0).toNat)) (2^(min 4 8))).toNat)).lo))))then true else(decide (((get mR ((Int.fdiv (get jv ((y8 s0 0).toNat)) (2^(min 4 8))).toNat)).hi)<(y8 s0 1))))then true else(decide ((y8 s0 2)<128)))) (2<(↑s0.length:Int))) <|
      chk (fX (!(bif (bif (bif (bif (decide ((↑s0.length:Int)<4))then true else(decide ((y8 s0 1)<((get mR ((Int.fdiv (get jv ((y8 s0 0).toNat)) (2^(min 4 8))).toNat)).lo))))then true else(decide (((get mR ((Int.fdiv (get jv ((y8 s0 0).toNat)) (2^(min 4 8))).toNat)).hi)<(y8 s0 1))))then true else(decide ((y8 s0 2)<128)))then true else(decide (191<(y8 s0 2))))) (3<(↑s0.length:Int))) <|
      chk (fX (!(bif (bif (bif (bif (bif (decide ((↑s0.length:Int)<4))then true else(decide ((y8 s0 1)<((get mR ((Int.fdiv (get jv ((y8 s0 0).toNat)) (2^(min 4 8))).toNat)).lo))))then true else(decide (((get mR ((Int.fdiv (get jv ((y8 s0 0).toNat)) (2^(min 4 8))).toNat)).hi)<(y8 s0 1))))then true else(decide ((y8 s0 2)<128)))then true else(decide (191<(y8 s0 2))))then true else(decide ((y8 s0 3)<128)))) (3<(↑s0.length:Int))) <|
      bif (bif (bif (bif (bif (bif (bif (decide ((↑s0.length:Int)<4))then true else(decide ((y8 s0 1)<((get mR ((Int.fdiv (get jv ((y8 s0 0).toNat)) (2^(min 4 8))).toNat)).lo))))then true else(decide (((get mR ((Int.fdiv (get jv ((y8 s0 0).toNat)) (2^(min 4 8))).toNat)).hi)<(y8 s0 1))))then true else(decide ((y8 s0 2)<128)))then true else(decide (191<(y8 s0 2))))then true else(decide ((y8 s0 3)<128)))then true else(decide (191<(y8 s0 3))))then
       some (.ret false)
      else
       chk (0≤4∧4≤s0.length) <|
       some (.nxt (s0.drop 4))
     else
      some (.ret false)
 else
  some (.brk ())
def Z6(t0:Unit):Option (Bool):=
 some true
def R9(n:Nat)(a0:Bs):Option (Bool):=
 C6 (V9 (M6 n) n a0) (Z6)
def aV(a0:Bs)(a1:Int):Option (Int):=
 (indexByte a0 a1).bind fun v1=>
 some v1
def ak(a0:Int):Option (Bool):=
 bif (bif (decide (0≤a0))then(decide (a0<55296))else false)then
  some true
 else
  bif (bif (decide (57343<a0))then(decide (a0≤1114111))else false)then
   some true
  else
   some false
def aN(a0:Bs)(s0:Nat):Option (Ctl (Int) (Nat) (Unit)):=
 bif (decide (s0<a0.length))then
  chk (s0<a0.length) <|
  bif (decide ((rune a0 s0)=65533))then
   some (.ret (↑s0:Int))
  else
   some (.nxt (s0+fD a0 s0))
 else
  some (.brk ())
def dH(t0:Unit):Option (Int):=
 some (-1)
def dI(a1:Int)(j2:Int)(a0:Bs)(s3:Int):Option (Ctl (Ctl (Int) (Unit) (Unit)) (Int) (Unit)):=
 bif (decide (s3<(↑((H9 a1).length):Int)))then
  chk (0≤(wr .i64 (j2-s3))∧(wr .i64 (j2-s3))<(↑a0.length:Int)) <|
  chk (0≤(wr .i64 ((wr .i64 ((↑((H9 a1).length):Int)-1))-s3))∧(wr .i64 ((wr .i64 ((↑((H9 a1).length):Int)-1))-s3))<(↑((H9 a1).length):Int)) <|
  bif (!decide ((y8 a0 (wr .i64 (j2-s3)))=(y8 (H9 a1) (wr .i64 ((wr .i64 ((↑((H9 a1).length):Int)-1))-s3)))))then
   none
  else
   some (.nxt (wr .i64 (s3+1)))
 else
  some (.brk ())
def dJ(j2:Int)(a1:Int)(t3:Unit):Option (Ctl (Int) (Unit) (Unit)):=
 some (.ret (wr .i64 (j2-(wr .i64 ((↑((H9 a1).length):Int)-1)))))
def aR(n:Nat)(a1:Int)(a0:Bs)(j2:Int):Option (Ctl (Int) (Unit) (Unit)):=
 C6 (V9 (dI a1 j2 a0) n 1) (dJ j2 a1)
def W6(n:Nat)(a1:Int)(a0:Bs)(s1:Unit):Option (Ctl (Int) (Unit) (Unit)):=
 bif (decide ((wr .i64 ((↑((H9 a1).length):Int)-1))<(↑a0.length:Int)))then
  chk (0≤(wr .i64 ((↑((H9 a1).length):Int)-1))∧(wr .i64 ((↑((H9 a1).length):Int)-1))<(↑a0.length:Int)) <|
  chk ((wr .i64 ((↑((H9 a1).length):Int)-1))<(↑((H9 a1).length):Int)) <|
  bif (!decide ((y8 a0 (wr .i64 ((↑((H9 a1).length):Int)-1)))=(y8 (H9 a1) (wr .i64 ((↑((H9 a1).length):Int)-1)))))then
   chk (0≤(wr .i64 ((wr .i64 ((↑((H9 a1).length):Int)-1))+1))∧(wr .i64 ((wr .i64 ((↑((H9 a1).length):Int)-1))+1)).toNat≤a0.length) <|
   (aV (a0.drop ((wr .i64 ((wr .i64 ((↑((H9 a1).length):Int)-1))+1)).toNat)) (y8 (H9 a1) (wr .i64 ((↑((H9 a1).length):Int)-1)))).bind fun v10=>
   bif (decide (v10<0))then
    some (.ret (-1))
   else
    aR n a1 a0 (wr .i64 ((wr .i64 ((↑((H9 a1).length):Int)-1))+(wr .i64 (v10+1))))
  else
   aR n a1 a0 (wr .i64 ((↑((H9 a1).length):Int)-1))
 else
  some (.brk ())
def dK(t1:Unit):Option (Int):=
 some (-1)
def Y3(n:Nat)(a0:Bs)(a1:Int):Option (Int):=
 bif (bif (decide (0≤a1))then(decide (a1<128))else false)then
  (aV a0 (wr .u8 a1)).bind fun v1=>
  some v1
 else
  bif (decide (a1=65533))then
   C6 (V9 (aN a0) n 0) (dH)
  else
   (ak a1).bind fun v4=>
   bif (!v4)then
    some (-1)
   else
    C6 (V9 (W6 n a1 a0) n ()) (dK)
def aG(a0:Int):Option (Bool):=
 some (decide (8<a0))
def aS(n:Nat)(a0:Bs)(j0:Int):Option (Int):=
 (Y3 n a0 j0).bind fun v2=>
 some v2
def aP(n:Nat)(a0:Bs)(a1:Bs)(s2:Nat):Option (Ctl (Int) (Nat) (Unit)):=
 bif (decide (s2<a0.length))then
  chk (s2<a0.length) <|
  (Y3 n a1 (rune a0 s2)).bind fun v7=>
  bif (decide (0≤v7))then
   some (.ret (↑s2:Int))
  else
   some (.nxt (s2+fD a0 s2))
 else
  some (.brk ())
def dL(t2:Unit):Option (Int):=
 some (-1)
def aO(n:Nat)(a0:Bs)(a1:Bs)(j1:Unit):Option (Int):=
 C6 (V9 (aP n a0 a1) n 0) (dL)
def dj(n:Nat)(a0:Bs)(a1:Bs):Option (Int):=
 bif (decide (a1=[]))then
  some (-1)
 else
  bif (decide ((↑a1.length:Int)=1))then
   chk (0<(↑a1.length:Int)) <|
   bif (decide (128≤(wr .i32 (y8 a1 0))))then
    aS n a0 65533
   else
    aS n a0 (wr .i32 (y8 a1 0))
  else
   (aG (↑a0.length:Int)).bind fun v3=>
   bif v3 then
    none
   else
    aO n a0 a1 ()
def eC(n:Nat)(a0:Bs)(a1:Bs):Option (Int):=
 bif decide (8<a0.length)then chk (2≤a1.length∧a0.length<4294967281∧a1.length<4294967281∧a1.all (fun b=>decide (b.toNat<128))=true) (some (Lib.indexAny a0 a1))
 else dj n a0 a1
def T9(n:Nat)(a0:Bs)(a1:Bs):Option (Bool):=
 (eC n a0 a1).bind fun v1=>
 some (decide (0≤v1))
def gZ(n:Nat)(a0:Bs):Option (Bool):=
 (J5 n a0).bind fun v1=>
 (gd (bif (decide (1≤v1))then(decide (v1≤30))else false) (R9 n a0) default).bind fun v2=>
 (gd (bif (bif (decide (1≤v1))then(decide (v1≤30))else false)then v2 else false) (T9 n a0 [32,9,10,40,41,91,93,44,59]) default).bind fun v3=>
 some (bif (bif (bif (decide (1≤v1))then(decide (v1≤30))else false)then v2 else false)then(!v3)else false)
def fI(n:Nat)(a0:x7)(a1:A9)(a2:D0):Option (Int):=
 (gZ n a2.word).bind fun v1=>
 bif (!v1)then
  some 10
 else
  bif (bif (decide (a2.weight<0))then true else(decide (1000000<a2.weight)))then
   some 3
  else
   (dA n a0 a1 a2.graph).bind fun v2=>
   bif (!decide (v2.code=0))then
    some v2.code
   else
    (bS n a2.meaning).bind fun v3=>
    some v3.code
def bJ(n:Nat)(a0:y7)(v4:A9)(k0:Nat)(s0:(List (Bs×Int))):Option (Ctl (w5) ((List (Bs×Int))) ((List (Bs×Int)))):=
 (termName ((get a0.rules k0).name)).bind fun v12=>
 bif (!v12)then
  (V7 10 (↑k0:Int)).bind fun v13=>
  some (.ret v13)
 else
  bif (assoc ((get a0.rules k0).name) s0).isSome then
   (V7 7 (↑k0:Int)).bind fun v14=>
   some (.ret v14)
  else
   cR (I7 ((get a0.rules k0).name) (↑k0:Int) s0) fun c15=>
   (hB n a0.hierarchy v4 (get a0.rules k0)).bind fun v17=>
   bif (!decide (v17=0))then
    (V7 v17 (↑k0:Int)).bind fun v18=>
    some (.ret v18)
   else
    some (.nxt c15)
def bL(n:Nat)(a0:y7)(v4:A9)(k1:Nat)(s1:Unit):Option (Ctl (w5) (Unit) (Unit)):=
 (fI n a0.hierarchy v4 (get a0.B3 k1)).bind fun v19=>
 bif (!decide (v19=0))then
  (V7 v19 (↑k1:Int)).bind fun v20=>
  some (.ret v20)
 else
  some (.nxt ())
def bM(n:Nat)(a0:y7)(v4:A9)(t1:Unit):Option (w5):=
 (dA n a0.hierarchy v4 a0.start).bind fun v21=>
 bif (!decide (v21.code=0))then
  (V7 v21.code (-1)).bind fun v22=>
  some v22
 else
  some (w5.mk 0 0)
def bK(n:Nat)(a0:y7)(v4:A9)(t0:(List (Bs×Int))):Option (w5):=
 C6 (E0 (bL n a0 v4) a0.B3.length ()) (bM n a0 v4)
def aE(n:Nat)(a0:y7):Option (w5):=
 (aC a0.hierarchy).bind fun v1=>
 bif (!decide (v1.code=0))then
  some v1
 else
  bif (decide ((↑a0.hierarchy.C2.length:Int)≤3))then
   (V7 9 (-1)).bind fun v2=>
   some v2
  else
   bif (bif (decide (40<(↑a0.rules.length:Int)))then true else(decide (100<(↑a0.B3.length:Int))))then
    (V7 2 (-1)).bind fun v3=>
    some v3
   else
    (aB a0.hierarchy.types).bind fun v4=>
    C6 (E0 (bJ n a0 v4) a0.rules.length []) (bK n a0 v4)
def bh(a0:Int)(a1:Int):Option (w5):=
 some (w5.mk a0 a1)
def bU(a0:Int)(a1:Int):Option (w5):=
 some (w5.mk a0 a1)
def jd(self:(B5)→(Int)→(Int)→(Int)→((List x5))→((List A0))→((List w8))→((List D0))→((List y4))→(Int)→Option (w5×Int×Int))(a0:B5)(a1:Int)(j1:Int)(iB:(List x5))(sk:(List A0))(pQ:(List w8))(ql:(List D0))(su:(List y4))(k2:Nat)(s2:Int×Int):Option (Ctl (w5×Int×Int) (Int×Int) (Int×Int)):=
 (self (get a0.kids k2) (wr .i64 (a1+1)) j1 s2.1 iB sk pQ ql su s2.2).bind fun v9=>
 bif (!decide (v9.1.code=0))then
  some (.ret (v9.1,v9.2.1,v9.2.2))
 else
  some (.nxt (v9.2.1,v9.2.2))
def je(t2:Int×Int):Option (w5×Int×Int):=
 some ((w5.mk 0 0),t2.1,t2.2)
def fu(self:(B5)→(Int)→(Int)→(Int)→((List x5))→((List A0))→((List w8))→((List D0))→((List y4))→(Int)→Option (w5×Int×Int))(S5:Int)(j0:Int×Int)(a0:B5)(a1:Int)(iB:(List x5))(sk:(List A0))(pQ:(List w8))(ql:(List D0))(su:(List y4))(j1:Int):Option (w5×Int×Int):=
 bif (decide (3<j1))then
  (bU 14 S5).bind fun v7=>
  some (v7,(wr .i64 (S5+1)),j0.1)
 else
  C6 (E0 (jd self a0 a1 j1 iB sk pQ ql su) a0.kids.length ((wr .i64 (S5+1)),j0.1)) (je)
def fz(self:(B5)→(Int)→(Int)→(Int)→((List x5))→((List A0))→((List w8))→((List D0))→((List y4))→(Int)→Option (w5×Int×Int))(a0:B5)(S5:Int)(a1:Int)(iB:(List x5))(sk:(List A0))(pQ:(List w8))(ql:(List D0))(su:(List y4))(a2:Int)(j0:Int×Int):Option (w5×Int×Int):=
 bif (!decide ((↑a0.kids.length:Int)=j0.2))then
  (bU 9 S5).bind fun v6=>
  some (v6,(wr .i64 (S5+1)),j0.1)
 else
  bif (!decide (j0.2=1))then
   fu self S5 j0 a0 a1 iB sk pQ ql su 0
  else
   fu self S5 j0 a0 a1 iB sk pQ ql su (wr .i64 (a2+1))
def bV:Nat→(B5)→(Int)→(Int)→(Int)→((List x5))→((List A0))→((List w8))→((List D0))→((List y4))→(Int)→Option (w5×Int×Int)
 |0,_,_,_,_,_,_,_,_,_,_=>none
 |n+1,a0,a1,a2,S5,iB,sk,pQ,ql,su,qm=>
  bif (bif (decide (200<(wr .i64 (S5+1))))then true else(decide (48<a1)))then
   (bU 1 S5).bind fun v1=>
   some (v1,(wr .i64 (S5+1)),qm)
  else
   bif (bif (bif (decide (a0.rule<(-1)))then true else(decide ((↑pQ.length:Int)≤a0.rule)))then true else(bif (decide (a0.rule=(-1)))then(bif (decide (a0.lex<0))then true else(decide ((↑ql.length:Int)≤a0.lex)))else false))then
    (bU 3 S5).bind fun v2=>
    some (v2,(wr .i64 (S5+1)),qm)
   else
    bif (bif (decide (0≤a0.rule))then(!decide (a0.lex=0))else false)then
     (bU 5 S5).bind fun v3=>
     some (v3,(wr .i64 (S5+1)),qm)
    else
     bif (decide (0≤a0.rule))then
      chk (0≤a0.rule∧a0.rule<(↑pQ.length:Int)) <|
      fz (bV n) a0 S5 a1 iB sk pQ ql su a2 (qm,(get pQ a0.rule.toNat).kids)
     else
      fz (bV n) a0 S5 a1 iB sk pQ ql su a2 ((wr .i64 (qm+1)),0)
def lX(n:Nat)(a0:y7)(a1:B5):Option (w5):=
 (bV n a1 1 0 0 a0.hierarchy.types a0.hierarchy.C2 a0.rules a0.B3 a0.start.nodes 0).bind fun v1=>
 bif (!decide (v1.1.code=0))then
  some v1.1
 else
  bif (decide (12<v1.2.2))then
   (bU 2 (-2)).bind fun v2=>
   some v2
  else
   some (w5.mk 0 0)
def jf(self:(B5)→((List Int))→((List Int))→Option ((List Int)×(List Int)))(a0:B5)(k1:Nat)(s1:(List Int)×(List Int)):Option (Ctl ((List Int)×(List Int)) ((List Int)×(List Int)) ((List Int)×(List Int))):=
 (self (get a0.kids k1) s1.1 s1.2).bind fun v20=>
 some (.nxt (v20.1,v20.2))
def jg(t1:(List Int)×(List Int)):Option ((List Int)×(List Int)):=
 some (t1.1,t1.2)
def fA(self:(B5)→((List Int))→((List Int))→Option ((List Int)×(List Int)))(a0:B5)(j0:(List Int)×(List Int)):Option ((List Int)×(List Int)):=
 C6 (E0 (jf self a0) a0.kids.length (j0.1,j0.2)) (jg)
def dM:Nat→(B5)→((List Int))→((List Int))→Option ((List Int)×(List Int))
 |0,_,_,_=>none
 |n+1,a0,l1,l2=>
  bif (decide (a0.rule<0))then
   chk (0≤a0.lex∧a0.lex<(↑l2.length:Int)) <|
   cR (l2.set a0.lex.toNat (wr .i64 ((get l2 a0.lex.toNat)+1))) fun c7=>
   fA (dM n) a0 (l1,c7)
  else
   chk (0≤a0.rule∧a0.rule<(↑l1.length:Int)) <|
   cR (l1.set a0.rule.toNat (wr .i64 ((get l1 a0.rule.toNat)+1))) fun c16=>
   fA (dM n) a0 (c16,l2)
def ke(n:Nat)(a0:y7)(l0:(List B5))(k0:Nat)(s0:(List Int)×(List Int)):Option (Ctl (C4×w5) ((List Int)×(List Int)) ((List Int)×(List Int))):=
 (lX n a0 (get l0 k0)).bind fun v17=>
 bif (!decide (v17.code=0))then
  (bh v17.code (↑k0:Int)).bind fun v18=>
  some (.ret ((C4.mk [] []),v18))
 else
  (dM n (get l0 k0) s0.1 s0.2).bind fun v19=>
  some (.nxt (v19.1,v19.2))
def kf(t0:(List Int)×(List Int)):Option (C4×w5):=
 some ((C4.mk t0.1 t0.2),(w5.mk 0 0))
def pA(n:Nat)(a0:y7)(l0:(List B5)):Option (C4×w5):=
 (aE n a0).bind fun v1=>
 bif (!decide (v1.code=0))then
  some ((C4.mk [] []),v1)
 else
  bif (decide (200<(↑l0.length:Int)))then
   (bh 2 (-2)).bind fun v2=>
   some ((C4.mk [] []),v2)
  else
   chk (a0.rules.length*8≤top∧a0.rules.length≤top) <|
   chk (a0.B3.length*8≤top∧a0.B3.length≤top) <|
   chk (l0.length≤9223372036854775807) <|
   C6 (E0 (ke n a0 l0) l0.length ((List.replicate a0.rules.length (default:Int)),(List.replicate a0.B3.length (default:Int)))) (kf)
def eI(a1:C4)(k0:Nat)(s0:Unit):Option (Ctl (w5) (Unit) (Unit)):=
 bif (bif (decide ((get a1.rules k0)<0))then true else(decide (1000000<(get a1.rules k0))))then
  (bh 3 (↑k0:Int)).bind fun v4=>
  some (.ret v4)
 else
  some (.nxt ())
def gC(a1:C4)(k1:Nat)(s1:Unit):Option (Ctl (w5) (Unit) (Unit)):=
 bif (bif (decide ((get a1.B3 k1)<0))then true else(decide (1000000<(get a1.B3 k1))))then
  (bh 3 (wr .i64 ((↑a1.rules.length:Int)+(↑k1:Int)))).bind fun v6=>
  some (.ret v6)
 else
  some (.nxt ())
def kg(t1:Unit):Option (w5):=
 some (w5.mk 0 0)
def eJ(a1:C4)(t0:Unit):Option (w5):=
 C6 (E0 (gC a1) a1.B3.length ()) (kg)
def gJ(n:Nat)(a0:y7)(a1:C4):Option (w5):=
 (aE n a0).bind fun v1=>
 bif (!decide (v1.code=0))then
  some v1
 else
  bif (bif (!decide ((↑a1.rules.length:Int)=(↑a0.rules.length:Int)))then true else(!decide ((↑a1.B3.length:Int)=(↑a0.B3.length:Int))))then
   (bh 9 (-2)).bind fun v2=>
   some v2
  else
   C6 (E0 (eI a1) a1.rules.length ()) (eJ a1)
def eD(a0:Int):Option (Int):=
 bif (decide (a0<0))then
  some (wr .u64 ((wr .u64 (wr .i64 (0-(wr .i64 (a0+1)))))+1))
 else
  some (wr .u64 a0)
def lS(s0:Int×Int):Option (Ctl (Int) (Int×Int) (Int)):=
 bif (!decide (s0.2=0))then
  chk (s0.2≠0) <|
  some (.nxt (s0.2,(Int.tmod s0.1 s0.2)))
 else
  some (.brk s0.1)
def pB(t0:Int):Option (Int):=
 some t0
def hH(n:Nat)(a0:Int)(a1:Int):Option (Int):=
 C6 (V9 (lS) n (a0,a1)) (pB)
def rR(a0:Bool)(a1:Int)(a2:Int):Option (w7×w5):=
 bif (bif (decide (1152921504606846976<a1))then true else(decide (1152921504606846976<a2)))then
  some ((w7.mk 0 0),(w5.mk 18 0))
 else
  bif a0 then
   some ((w7.mk (wr .i64 (0-(wr .i64 a1))) (wr .i64 a2)),(w5.mk 0 0))
  else
   some ((w7.mk (wr .i64 a1) (wr .i64 a2)),(w5.mk 0 0))
def oa(n:Nat)(a0:Int)(a1:Int):Option (w7×w5):=
 bif (decide (a1=0))then
  some ((w7.mk 0 0),(w5.mk 19 (-2)))
 else
  (eD a0).bind fun v1=>
  (eD a1).bind fun v2=>
  (hH n v1 v2).bind fun v3=>
  chk (v3≠0∧InK .u64 (Int.tdiv v1 v3)) <|
  chk (InK .u64 (Int.tdiv v2 v3)) <|
  (rR (!decide ((decide (a0<0))=(decide (a1<0)))) (Int.tdiv v1 v3) (Int.tdiv v2 v3)).bind fun v7=>
  some (v7.1,v7.2)
def dr(n:Nat)(l0:(List Int))(l2:(List Int))(a1:(List Int))(k0:Nat)(s0:(List w7)):Option (Ctl ((List w7)) ((List w7)) ((List w7))):=
 chk (0≤(get l0 k0)∧(get l0 k0)<(↑l2.length:Int)) <|
 bif (decide (0<(get l2 ((get l0 k0).toNat))))then
  chk ((↑k0:Int)<(↑a1.length:Int)) <|
  (oa n (get a1 k0) (get l2 ((get l0 k0).toNat))).bind fun v33=>
  cR (s0++[v33.1]) fun c35=>
  chk (c35.length*16≤top∧c35.length≤top) <|
  some (.nxt c35)
 else
  cR (s0++[(w7.mk 0 1)]) fun c41=>
  chk (c41.length*16≤top∧c41.length≤top) <|
  some (.nxt c41)
def fR(t0:(List w7)):Option ((List w7)):=
 some t0
def cF(n:Nat)(a1:(List Int))(l0:(List Int))(l2:(List Int)):Option ((List w7)):=
 chk (l0.length≤9223372036854775807) <|
 C6 (E0 (dr n l0 l2 a1) l0.length []) (fR)
def eE(n:Nat)(a0:y7)(a1:C4)(k0:Nat)(s0:(List Int)×(List Int)):Option (Ctl ((List w7)×(List w7)) ((List Int)×(List Int)) ((List Int)×(List Int))):=
 (dB n ((get a0.rules k0).graph) 0 0).bind fun v23=>
 chk (0≤v23∧v23<(↑(((get a0.rules k0).graph.nodes).length):Int)) <|
 cR (s0.2++[(get ((get a0.rules k0).graph.nodes) v23.toNat).type]) fun c27=>
 chk (c27.length*8≤top∧c27.length≤top) <|
 chk (0≤(get ((get a0.rules k0).graph.nodes) v23.toNat).type∧(get ((get a0.rules k0).graph.nodes) v23.toNat).type<(↑s0.1.length:Int)) <|
 chk ((↑k0:Int)<(↑a1.rules.length:Int)) <|
 cR (s0.1.set (((get ((get a0.rules k0).graph.nodes) v23.toNat).type).toNat) (wr .i64 ((get s0.1 (((get ((get a0.rules k0).graph.nodes) v23.toNat).type).toNat))+(get a1.rules k0)))) fun c39=>
 some (.nxt (c39,c27))
def eG(a0:y7)(a1:C4)(k1:Nat)(s1:(List Int)×(List Int)):Option (Ctl ((List w7)×(List w7)) ((List Int)×(List Int)) ((List Int)×(List Int))):=
 chk (0<(↑(((get a0.B3 k1).graph.nodes).length):Int)) <|
 cR (s1.2++[(get ((get a0.B3 k1).graph.nodes) 0).type]) fun c61=>
 chk (c61.length*8≤top∧c61.length≤top) <|
 chk (0≤(get ((get a0.B3 k1).graph.nodes) 0).type∧(get ((get a0.B3 k1).graph.nodes) 0).type<(↑s1.1.length:Int)) <|
 chk ((↑k1:Int)<(↑a1.B3.length:Int)) <|
 cR (s1.1.set (((get ((get a0.B3 k1).graph.nodes) 0).type).toNat) (wr .i64 ((get s1.1 (((get ((get a0.B3 k1).graph.nodes) 0).type).toNat))+(get a1.B3 k1)))) fun c73=>
 some (.nxt (c73,c61))
def eH(n:Nat)(a1:C4)(t0:(List Int)×(List Int))(t1:(List Int)×(List Int)):Option ((List w7)×(List w7)):=
 (cF n a1.rules t0.2 t1.1).bind fun v76=>
 (cF n a1.B3 t1.2 t1.1).bind fun v77=>
 some (v76,v77)
def eF(n:Nat)(a0:y7)(a1:C4)(t0:(List Int)×(List Int)):Option ((List w7)×(List w7)):=
 C6 (E0 (eG a0 a1) a0.B3.length (t0.1,[])) (eH n a1 t0)
def dQ(n:Nat)(a0:y7)(a1:C4):Option ((List w7)×(List w7)):=
 chk (a0.hierarchy.types.length*8≤top∧a0.hierarchy.types.length≤top) <|
 C6 (E0 (eE n a0 a1) a0.rules.length ((List.replicate a0.hierarchy.types.length (default:Int)),[])) (eF n a0 a1)
def hY(n:Nat)(a0:w7)(a1:Int):Option (w5):=
 bif (bif (bif (bif (decide (a0.num<(-1152921504606846976)))then true else(decide (1152921504606846976<a0.num)))then true else(decide (a0.den<1)))then true else(decide (1152921504606846976<a0.den)))then
  some (w5.mk 3 a1)
 else
  (eD a0.num).bind fun v1=>
  (hH n v1 (wr .u64 a0.den)).bind fun v2=>
  bif (!decide (v2=1))then
   some (w5.mk 5 a1)
  else
   some (w5.mk 0 0)
def vn(n:Nat)(a0:w7)(a1:w7):Option (w5):=
 (hY n a0 (-1)).bind fun v1=>
 bif (!decide (v1.code=0))then
  some v1
 else
  (hY n a1 (-2)).bind fun v2=>
  some v2
def aQ(a0:Int)(a1:Int):Option (Int×Int):=
 some ((wr .u64 ((wr .u64 ((wr .u64 ((Int.fdiv a0 (2^(min 32 64)))*(Int.fdiv a1 (2^(min 32 64)))))+(Int.fdiv (wr .u64 ((wr .u64 ((Int.fdiv a0 (2^(min 32 64)))*(P3 .and .u64 a1 4294967295)))+(Int.fdiv (wr .u64 ((P3 .and .u64 a0 4294967295)*(P3 .and .u64 a1 4294967295))) (2^(min 32 64))))) (2^(min 32 64)))))+(Int.fdiv (wr .u64 ((P3 .and .u64 (wr .u64 ((wr .u64 ((Int.fdiv a0 (2^(min 32 64)))*(P3 .and .u64 a1 4294967295)))+(Int.fdiv (wr .u64 ((P3 .and .u64 a0 4294967295)*(P3 .and .u64 a1 4294967295))) (2^(min 32 64))))) 4294967295)+(wr .u64 ((P3 .and .u64 a0 4294967295)*(Int.fdiv a1 (2^(min 32 64))))))) (2^(min 32 64))))),(wr .u64 (a0*a1)))
def dG(a0:Int)(a1:Int):Option (Int×Bool):=
 (aQ a0 a1).bind fun v1=>
 some (v1.2,(bif (decide (v1.1=0))then(decide (v1.2≤1152921504606846976))else false))
def sv(n:Nat)(a0:w7)(a1:w7):Option (w7×w5):=
 (eD a0.num).bind fun v1=>
 (eD a1.num).bind fun v2=>
 (hH n v1 (wr .u64 a1.den)).bind fun v3=>
 (hH n v2 (wr .u64 a0.den)).bind fun v4=>
 chk (v3≠0∧InK .u64 (Int.tdiv v1 v3)) <|
 chk (v4≠0∧InK .u64 (Int.tdiv v2 v4)) <|
 (dG (Int.tdiv v1 v3) (Int.tdiv v2 v4)).bind fun v9=>
 chk (InK .u64 (Int.tdiv (wr .u64 a0.den) v4)) <|
 chk (InK .u64 (Int.tdiv (wr .u64 a1.den) v3)) <|
 (dG (Int.tdiv (wr .u64 a0.den) v4) (Int.tdiv (wr .u64 a1.den) v3)).bind fun v12=>
 bif (bif (!v9.2)then true else(!v12.2))then
  some ((w7.mk 0 0),(w5.mk 18 0))
 else
  (rR (bif (!decide ((decide (a0.num<0))=(decide (a1.num<0))))then(decide (0<v9.1))else false) v9.1 v12.1).bind fun v13=>
  some (v13.1,v13.2)
def yV(n:Nat)(a0:w7)(a1:w7):Option (w7×w5):=
 (vn n a0 a1).bind fun v1=>
 bif (!decide (v1.code=0))then
  some ((w7.mk 0 0),v1)
 else
  (sv n a0 a1).bind fun v2=>
  some (v2.1,v2.2)
def cN(self:(B5)→((List w7))→((List w7))→(Int)→(Int)→Option (Bool×Int×Int))(a0:B5)(S5:(List w7))(iB:(List w7))(k1:Nat)(s1:Int×Int):Option (Ctl (Bool×Int×Int) (Int×Int) (Int×Int)):=
 (self (get a0.kids k1) S5 iB s1.1 s1.2).bind fun v7=>
 bif (!v7.1)then
  some (.ret (false,v7.2.1,v7.2.2))
 else
  some (.nxt (v7.2.1,v7.2.2))
def cO(t1:Int×Int):Option (Bool×Int×Int):=
 some (true,t1.1,t1.2)
def ao(self:(B5)→((List w7))→((List w7))→(Int)→(Int)→Option (Bool×Int×Int))(n:Nat)(qm:Int)(Bb:Int)(a0:B5)(S5:(List w7))(iB:(List w7))(j0:Int×Int):Option (Bool×Int×Int):=
 (yV n (w7.mk qm Bb) (w7.mk j0.1 j0.2)).bind fun v5=>
 bif (!decide (v5.2.code=0))then
  some (false,v5.1.num,v5.1.den)
 else
  C6 (E0 (cN self a0 S5 iB) a0.kids.length (v5.1.num,v5.1.den)) (cO)
def S4:Nat→(B5)→((List w7))→((List w7))→(Int)→(Int)→Option (Bool×Int×Int)
 |0,_,_,_,_,_=>none
 |n+1,a0,S5,iB,qm,Bb=>
  bif (decide (a0.rule<0))then
   chk (0≤a0.lex∧a0.lex<(↑S5.length:Int)) <|
   ao (S4 n) n qm Bb a0 S5 iB ((get S5 a0.lex.toNat).num,(get S5 a0.lex.toNat).den)
  else
   chk (0≤a0.rule∧a0.rule<(↑iB.length:Int)) <|
   ao (S4 n) n qm Bb a0 S5 iB ((get iB a0.rule.toNat).num,(get iB a0.rule.toNat).den)
def eK(n:Nat)(a0:(List w7))(a1:(List w7))(a2:B5):Option (w7×Bool):=
 (S4 n a2 a1 a0 1 1).bind fun v1=>
 bif (!v1.1)then
  some ((w7.mk 0 0),false)
 else
  some ((w7.mk v1.2.1 v1.2.2),true)
def fS(n:Nat)(a0:y7)(a1:C4)(a2:B5):Option (w7×w5):=
 (gJ n a0 a1).bind fun v1=>
 bif (!decide (v1.code=0))then
  some ((w7.mk 0 0),v1)
 else
  (lX n a0 a2).bind fun v2=>
  bif (!decide (v2.code=0))then
   some ((w7.mk 0 0),v2)
  else
   (dQ n a0 a1).bind fun v3=>
   (eK n v3.1 v3.2 a2).bind fun v4=>
   bif (!v4.2)then
    (bh 18 0).bind fun v5=>
    some ((w7.mk 0 0),v5)
   else
    some (v4.1,(w5.mk 0 0))
def M7(n:Nat):Option (Bool):=
 (bT n).bind fun v1=>
 (pA n v1 [(B5.mk 0 0 [(B5.mk (-1) 19 []),(B5.mk 2 0 [(B5.mk (-1) 9 [])])])]).bind fun v5=>
 chk (fX (!(bif (bif (!decide (v5.2.code=0))then true else(!decide ((↑v5.1.rules.length:Int)=6)))then true else(!decide ((↑v5.1.B3.length:Int)=21)))) (0<(↑v5.1.rules.length:Int))) <|
 chk (fX (!(bif (bif (bif (!decide (v5.2.code=0))then true else(!decide ((↑v5.1.rules.length:Int)=6)))then true else(!decide ((↑v5.1.B3.length:Int)=21)))then true else(!decide ((get v5.1.rules 0)=1)))) (19<(↑v5.1.B3.length:Int))) <|
 chk (fX (!(bif (bif (bif (bif (!decide (v5.2.code=0))then true else(!decide ((↑v5.1.rules.length:Int)=6)))then true else(!decide ((↑v5.1.B3.length:Int)=21)))then true else(!decide ((get v5.1.rules 0)=1)))then true else(!decide ((get v5.1.B3 19)=1)))) (0<(↑v5.1.B3.length:Int))) <|
 bif (bif (bif (bif (bif (bif (!decide (v5.2.code=0))then true else(!decide ((↑v5.1.rules.length:Int)=6)))then true else(!decide ((↑v5.1.B3.length:Int)=21)))then true else(!decide ((get v5.1.rules 0)=1)))then true else(!decide ((get v5.1.B3 19)=1)))then true else(!decide ((get v5.1.B3 0)=0)))then
  some false
 else
  (fS n v1 v5.1 (B5.mk 0 0 [(B5.mk (-1) 19 []),(B5.mk 2 0 [(B5.mk (-1) 9 [])])])).bind fun v12=>
  some (bif (decide (v12.2.code=0))then(decide (v12.1.num=1)&&(decide (v12.1.den=1)))else false)
def cV(n:Nat)(a0:y7)(a1:C4):Option ((List w7)×(List w7)×w5):=
 (gJ n a0 a1).bind fun v1=>
 bif (!decide (v1.code=0))then
  some ([],[],v1)
 else
  (dQ n a0 a1).bind fun v2=>
  some (v2.1,v2.2,(w5.mk 0 0))
def X1(a0:Bs)(k0:Nat)(s0:Unit):Option (Ctl (Bool) (Unit) (Unit)):=
 bif (bif (!(bif (decide (97≤(get (bytesOf a0) k0)))then(decide ((get (bytesOf a0) k0)≤122))else false))then(bif (!(bif (bif (bif (decide (48≤(get (bytesOf a0) k0)))then(decide ((get (bytesOf a0) k0)≤57))else false)then true else(decide ((get (bytesOf a0) k0)=95)))then true else(decide ((get (bytesOf a0) k0)=45))))then true else(decide ((↑k0:Int)=0)))else false)then
  some (.ret false)
 else
  some (.nxt ())
def X2(t0:Unit):Option (Bool):=
 some true
def N8(a0:Bs):Option (Bool):=
 bif (bif (decide ((↑a0.length:Int)<1))then true else(decide (30<(↑a0.length:Int))))then
  some false
 else
  chk (a0.length≤top) <|
  C6 (E0 (X1 a0) ((bytesOf a0).length) ()) (X2)
def J4(a0:(List x5))(k0:Nat)(k3:Nat)(s3:Unit):Option (Ctl (Ctl (w5) (Unit) (Unit)) (Unit) (Unit)):=
 bif (decide (((get (a0.take k0) k3).name)=((get a0 k0).name)))then
  some (.ret (.ret (w5.mk 7 (↑k0:Int))))
 else
  some (.nxt ())
def O7(a0:(List x5))(k0:Nat)(k4:Nat)(s4:Unit):Option (Ctl (Ctl (w5) (Unit) (Unit)) (Unit) (Unit)):=
 bif (bif (decide ((get ((get a0 k0).parents) k4)<0))then true else(decide ((↑k0:Int)≤(get ((get a0 k0).parents) k4))))then
  some (.ret (.ret (w5.mk 3 (↑k0:Int))))
 else
  chk (fX (decide (0<(↑k4:Int))) (0≤(wr .i64 ((↑k4:Int)-1)))∧fX (decide (0<(↑k4:Int))) ((wr .i64 ((↑k4:Int)-1))<(↑(((get a0 k0).parents).length):Int))) <|
  bif (bif (decide (0<(↑k4:Int)))then(decide ((get ((get a0 k0).parents) k4)≤(get ((get a0 k0).parents) ((wr .i64 ((↑k4:Int)-1)).toNat))))else false)then
   some (.ret (.ret (w5.mk 13 (↑k0:Int))))
  else
   some (.nxt ())
def O8(t4:Unit):Option (Ctl (w5) (Unit) (Unit)):=
 some (.nxt ())
def O6(k0:Nat)(a0:(List x5))(t3:Unit):Option (Ctl (w5) (Unit) (Unit)):=
 bif (!decide ((decide ((↑k0:Int)=0))=(decide ((↑(((get a0 k0).parents).length):Int)=0))))then
  some (.ret (w5.mk 5 (↑k0:Int)))
 else
  C6 (E0 (O7 a0 k0) (((get a0 k0).parents).length) ()) (O8)
def O5(a0:(List x5))(k0:Nat)(s0:Unit):Option (Ctl (w5) (Unit) (Unit)):=
 (N8 ((get a0 k0).name)).bind fun v10=>
 bif (!v10)then
  some (.ret (w5.mk 10 (↑k0:Int)))
 else
  chk (0≤(↑k0:Int)∧k0≤a0.length) <|
  C6 (E0 (J4 a0 k0) ((a0.take k0).length) ()) (O6 k0 a0)
def V5(t0:Unit):Option (w5):=
 some (w5.mk 0 0)
def F8(a0:(List x5)):Option (w5):=
 bif (bif (decide ((↑a0.length:Int)=0))then true else(decide (60<(↑a0.length:Int))))then
  some (w5.mk 2 (-1))
 else
  C6 (E0 (O5 a0) a0.length ()) (V5)
def nS(n:Nat)(a0:List x5):Option (List (List Bool)):=
 chk (a0.length*24≤top) <|
 chk (((List.range a0.length).all fun i=>(List.range a0.length).all fun j=>(D7 n a0 (i:Int) (j:Int)).isSome)=true) <|
 some (tf a0.length a0.length fun(i j:Nat)=>(D7 n a0 (i:Int) (j:Int)).getD false)
def V0(v1:(List (List Bool)))(k4:Nat)(k0:Nat)(k5:Nat)(s5:Int):Option (Ctl (Ctl (Ctl (Int) (Unit) (Unit)) (Unit) (Unit)) (Int) (Int)):=
 chk ((↑k5:Int)<(↑v1.length:Int)) <|
 chk ((↑k4:Int)<(↑((get v1 k5).length):Int)) <|
 chk (fX (get (get v1 k5) k4) (k0<((get v1 k5).length))) <|
 bif (bif (get (get v1 k5) k4)then(get (get v1 k5) k0)else false)then
  bif (decide (s5<0))then
   some (.nxt (↑k5:Int))
  else
   chk (0≤s5∧s5<(↑((get v1 k5).length):Int)) <|
   bif (!(get (get v1 k5) s5.toNat))then
    some (.ret (.ret (.ret (↑k0:Int))))
   else
    some (.nxt s5)
 else
  some (.nxt s5)
def V1(t5:Int):Option (Ctl (Ctl (Int) (Unit) (Unit)) (Unit) (Unit)):=
 some (.nxt ())
def U9(a0:(List x5))(v1:(List (List Bool)))(k0:Nat)(k4:Nat)(s4:Unit):Option (Ctl (Ctl (Int) (Unit) (Unit)) (Unit) (Unit)):=
 chk (a0.length≤9223372036854775807) <|
 C6 (E0 (V0 v1 k4 k0) a0.length (-1)) (V1)
def V2(t4:Unit):Option (Ctl (Int) (Unit) (Unit)):=
 some (.nxt ())
def U8(a0:(List x5))(v1:(List (List Bool)))(k0:Nat)(s0:Unit):Option (Ctl (Int) (Unit) (Unit)):=
 chk (k0≤9223372036854775807) <|
 C6 (E0 (U9 a0 v1 k0) k0 ()) (V2)
def V3(t0:Unit):Option (Int):=
 some (-1)
def U6(n:Nat)(a0:(List x5)):Option (Int):=
 (nS n a0).bind fun v1=>
 chk (a0.length≤9223372036854775807) <|
 C6 (E0 (U8 a0 v1) a0.length ()) (V3)
def G0(a0:x7)(k0:Nat)(k2:Nat)(s2:Unit):Option (Ctl (Ctl (w5) (Unit) (Unit)) (Unit) (Unit)):=
 bif (decide (((get (a0.C2.take k0) k2).name)=((get a0.C2 k0).name)))then
  some (.ret (.ret (w5.mk 7 (↑k0:Int))))
 else
  some (.nxt ())
def J9(a0:x7)(k0:Nat)(t2:Unit):Option (Ctl (w5) (Unit) (Unit)):=
 bif (bif (bif (bif (decide (((get a0.C2 k0).of_)<0))then true else(decide ((↑a0.types.length:Int)≤((get a0.C2 k0).of_))))then true else(decide (((get a0.C2 k0).value)<0)))then true else(decide ((↑a0.types.length:Int)≤((get a0.C2 k0).value))))then
  some (.ret (w5.mk 3 (↑k0:Int)))
 else
  some (.nxt ())
def F9(a0:x7)(k0:Nat)(s0:Unit):Option (Ctl (w5) (Unit) (Unit)):=
 (N8 ((get a0.C2 k0).name)).bind fun v6=>
 bif (!v6)then
  some (.ret (w5.mk 10 (↑k0:Int)))
 else
  chk (0≤(↑k0:Int)∧k0≤a0.C2.length) <|
  C6 (E0 (G0 a0 k0) ((a0.C2.take k0).length) ()) (J9 a0 k0)
def J8(t0:Unit):Option (w5):=
 some (w5.mk 0 0)
def I4(n:Nat)(a0:x7):Option (w5):=
 bif (decide (40<(↑a0.C2.length:Int)))then
  some (w5.mk 2 (-1))
 else
  (F8 a0.types).bind fun v1=>
  bif (!decide (v1.code=0))then
   some v1
  else
   (U6 n a0.types).bind fun v2=>
   bif (decide (0≤v2))then
    some (w5.mk 16 v2)
   else
    C6 (E0 (F9 a0) a0.C2.length ()) (J8)
def P0(a1:B0)(k0:Nat)(a0:x7)(k2:Nat)(s2:Unit):Option (Ctl (Ctl (w5) (Unit) (Unit)) (Unit) (Unit)):=
 bif (bif (bif (bif (decide (((get ((get a1.nodes k0).links) k2).eL)<0))then true else(decide ((↑a0.C2.length:Int)≤((get ((get a1.nodes k0).links) k2).eL))))then true else(decide (((get ((get a1.nodes k0).links) k2).to_)<0)))then true else(decide ((↑a1.nodes.length:Int)≤((get ((get a1.nodes k0).links) k2).to_))))then
  some (.ret (.ret (w5.mk 3 (↑k0:Int))))
 else
  chk (fX (decide (0<(↑k2:Int))) (0≤(wr .i64 ((↑k2:Int)-1)))∧fX (decide (0<(↑k2:Int))) ((wr .i64 ((↑k2:Int)-1))<(↑(((get a1.nodes k0).links).length):Int))) <|
  bif (bif (decide (0<(↑k2:Int)))then(decide (((get ((get a1.nodes k0).links) k2).eL)≤((get ((get a1.nodes k0).links) ((wr .i64 ((↑k2:Int)-1)).toNat)).eL)))else false)then
   some (.ret (.ret (w5.mk 13 (↑k0:Int))))
  else
   some (.nxt ())
def P1(t2:Unit):Option (Ctl (w5) (Unit) (Unit)):=
 some (.nxt ())
def O9(a1:B0)(a0:x7)(k0:Nat)(s0:Unit):Option (Ctl (w5) (Unit) (Unit)):=
 bif (bif (decide (((get a1.nodes k0).type)<0))then true else(decide ((↑a0.types.length:Int)≤((get a1.nodes k0).type))))then
  some (.ret (w5.mk 3 (↑k0:Int)))
 else
  C6 (E0 (P0 a1 k0 a0) (((get a1.nodes k0).links).length) ()) (P1)
def V6(t0:Unit):Option (w5):=
 some (w5.mk 0 0)
def M1(a0:x7)(a1:B0):Option (w5):=
 bif (bif (decide ((↑a1.nodes.length:Int)=0))then true else(decide (60<(↑a1.nodes.length:Int))))then
  some (w5.mk 2 (-2))
 else
  C6 (E0 (O9 a1 a0) a1.nodes.length ()) (V6)
def P9(k4:Nat)(a0:B0)(k6:Nat)(s6:(List Bool)):Option (Ctl (Ctl (Ctl (Int) ((List Bool)) ((List Bool))) ((List Bool)) ((List Bool))) ((List Bool)) ((List Bool))):=
 chk ((↑k4:Int)<(↑s6.length:Int)) <|
 bif (get s6 k4)then
  chk (0≤(get ((get a0.nodes k4).links) k6).to_∧(get ((get a0.nodes k4).links) k6).to_<(↑s6.length:Int)) <|
  cR (s6.set (((get ((get a0.nodes k4).links) k6).to_).toNat) true) fun c88=>
  some (.nxt c88)
 else
  some (.nxt s6)
def Q0(t6:(List Bool)):Option (Ctl (Ctl (Int) ((List Bool)) ((List Bool))) ((List Bool)) ((List Bool))):=
 some (.nxt t6)
def P8(a0:B0)(k4:Nat)(s4:(List Bool)):Option (Ctl (Ctl (Int) ((List Bool)) ((List Bool))) ((List Bool)) ((List Bool))):=
 C6 (E0 (P9 k4 a0) (((get a0.nodes k4).links).length) s4) (Q0)
def Q5(t4:(List Bool)):Option (Ctl (Int) ((List Bool)) ((List Bool))):=
 some (.nxt t4)
def P7(a0:B0)(k0:Nat)(s0:(List Bool)):Option (Ctl (Int) ((List Bool)) ((List Bool))):=
 C6 (E0 (P8 a0) a0.nodes.length s0) (Q5)
def Q6(t0:(List Bool)):Option (Int):=
 (I0 t0 false).bind fun v91=>
 some v91
def J6(a0:B0):Option (Int):=
 chk (a0.nodes.length*1≤top∧a0.nodes.length≤top) <|
 chk (0<(↑a0.nodes.length:Int)) <|
 cR ((List.replicate a0.nodes.length (default:Bool)).set 0 true) fun c7=>
 chk (a0.nodes.length≤9223372036854775807) <|
 C6 (E0 (P7 a0) a0.nodes.length c7) (Q6)
def M9(n:Nat)(a1:B0)(k0:Nat)(a0:x7)(k2:Nat)(s2:Unit):Option (Ctl (Ctl (w5) (Unit) (Unit)) (Unit) (Unit)):=
 chk (0≤(get ((get a1.nodes k0).links) k2).eL∧(get ((get a1.nodes k0).links) k2).eL<(↑a0.C2.length:Int)) <|
 (D7 n a0.types ((get a1.nodes k0).type) ((get a0.C2 (((get ((get a1.nodes k0).links) k2).eL).toNat)).of_)).bind fun v25=>
 chk (fX (!(!v25)) (0≤(get ((get a1.nodes k0).links) k2).to_)∧fX (!(!v25)) ((get ((get a1.nodes k0).links) k2).to_<(↑a1.nodes.length:Int))) <|
 (gd (!(!v25)) (D7 n a0.types ((get a1.nodes (((get ((get a1.nodes k0).links) k2).to_).toNat)).type) ((get a0.C2 (((get ((get a1.nodes k0).links) k2).eL).toNat)).value)) default).bind fun v29=>
 bif (bif (!v25)then true else(!v29))then
  some (.ret (.ret (w5.mk 12 (↑k0:Int))))
 else
  some (.nxt ())
def N0(t2:Unit):Option (Ctl (w5) (Unit) (Unit)):=
 some (.nxt ())
def M8(n:Nat)(a1:B0)(a0:x7)(k0:Nat)(s0:Unit):Option (Ctl (w5) (Unit) (Unit)):=
 C6 (E0 (M9 n a1 k0 a0) (((get a1.nodes k0).links).length) ()) (N0)
def N3(a1:B0)(t0:Unit):Option (w5):=
 (J6 a1).bind fun v30=>
 bif (decide (0≤v30))then
  some (w5.mk 5 v30)
 else
  some (w5.mk 0 0)
def F5(n:Nat)(a0:x7)(a1:B0):Option (w5):=
 (M1 a0 a1).bind fun v1=>
 bif (!decide (v1.code=0))then
  some v1
 else
  C6 (E0 (M8 n a1 a0) a1.nodes.length ()) (N3 a1)
def T6(a0:B0)(a1:Int)(a2:Int)(k0:Nat)(s0:Unit):Option (Ctl (Int) (Unit) (Unit)):=
 bif (decide (((get ((get a0.nodes a1.toNat).links) k0).eL)=a2))then
  some (.ret ((get ((get a0.nodes a1.toNat).links) k0).to_))
 else
  some (.nxt ())
def T7(t0:Unit):Option (Int):=
 some (-1)
def K6(a0:B0)(a1:Int)(a2:Int):Option (Int):=
 chk (0≤a1∧a1<(↑a0.nodes.length:Int)) <|
 C6 (E0 (T6 a0 a1 a2) (((get a0.nodes a1.toNat).links).length) ()) (T7)
def T2(a0:u0):Option (Bool):=
 some (bif (decide (a0.base=[]))then(decide ((↑a0.args.length:Int)=0))else false)
def X4(a0:Bs)(s0:Int):Option (Ctl (Bool) (Int) (Unit)):=
 bif (decide (s0<(↑a0.length:Int)))then
  chk (0≤s0∧s0<(↑a0.length:Int)) <|
  bif (bif (!(bif (decide (97≤(y8 a0 s0)))then(decide ((y8 a0 s0)≤122))else false))then(bif (decide (s0=0))then true else(!(bif (bif (bif (decide (48≤(y8 a0 s0)))then(decide ((y8 a0 s0)≤57))else false)then true else(decide ((y8 a0 s0)=95)))then true else(decide ((y8 a0 s0)=45)))))else false)then
   some (.ret false)
  else
   some (.nxt (wr .i64 (s0+1)))
 else
  some (.brk ())
def bq(t0:Unit):Option (Bool):=
 some true
def W4(n:Nat)(a0:Bs):Option (Bool):=
 bif (bif (decide ((↑a0.length:Int)<1))then true else(decide (30<(↑a0.length:Int))))then
  some false
 else
  C6 (V9 (X4 a0) n 0) (bq)
def D5(s0:(List x9)×Int×Nat):Option (Ctl (Int) ((List x9)×Int×Nat) (Unit)):=
 bif (decide (0<(↑s0.2.2:Int)))then
  chk (s0.2.2≤s0.1.length) <|
  chk (0≤(wr .i64 ((↑s0.2.2:Int)-1))∧(wr .i64 ((↑s0.2.2:Int)-1))<(↑s0.2.2:Int)) <|
  chk ((wr .i64 ((↑s0.2.2:Int)-1)).toNat≤s0.2.2) <|
  bif (bif (decide (200<(wr .i64 (s0.2.1+1))))then true else(decide (40<((get s0.1 ((wr .i64 ((↑s0.2.2:Int)-1)).toNat)).depth))))then
   some (.ret 1)
  else
   bif (decide (((get s0.1 ((wr .i64 ((↑s0.2.2:Int)-1)).toNat)).s.base)=[]))then
    bif (!decide ((↑(((get s0.1 ((wr .i64 ((↑s0.2.2:Int)-1)).toNat)).s.args).length):Int)=2))then
     some (.ret 5)
    else
     chk (1<(↑(((get s0.1 ((wr .i64 ((↑s0.2.2:Int)-1)).toNat)).s.args).length):Int)) <|
     chk (0<(↑(((get s0.1 ((wr .i64 ((↑s0.2.2:Int)-1)).toNat)).s.args).length):Int)) <|
     chk ((wr .i64 ((↑s0.2.2:Int)-1)).toNat≤s0.1.length) <|
     cR ((s0.1.take ((wr .i64 ((↑s0.2.2:Int)-1)).toNat))++[(x9.mk (get ((get s0.1 ((wr .i64 ((↑s0.2.2:Int)-1)).toNat)).s.args) 1) (wr .i64 (((get s0.1 ((wr .i64 ((↑s0.2.2:Int)-1)).toNat)).depth)+1))),(x9.mk (get ((get s0.1 ((wr .i64 ((↑s0.2.2:Int)-1)).toNat)).s.args) 0) (wr .i64 (((get s0.1 ((wr .i64 ((↑s0.2.2:Int)-1)).toNat)).depth)+1)))]) fun c25=>
     chk (c25.length*48≤top∧c25.length≤top) <|
     some (.nxt (c25,(wr .i64 (s0.2.1+1)),c25.length))
   else
    bif (bif (bif (!decide (((get s0.1 ((wr .i64 ((↑s0.2.2:Int)-1)).toNat)).s.base)=[101]))then(!decide (((get s0.1 ((wr .i64 ((↑s0.2.2:Int)-1)).toNat)).s.base)=[116]))else false)then true else(!decide ((↑(((get s0.1 ((wr .i64 ((↑s0.2.2:Int)-1)).toNat)).s.args).length):Int)=0)))then
     some (.ret 5)
    else
     some (.nxt (s0.1,(wr .i64 (s0.2.1+1)),(wr .i64 ((↑s0.2.2:Int)-1)).toNat))
 else
  some (.brk ())
def N4(t0:Unit):Option (Int):=
 some 0
def L1(n:Nat)(a0:u0):Option (Int):=
 C6 (V9 (D5) n ([(x9.mk a0 1)],0,1)) (N4)
def G6(a0:(List B6))(s0:Int×Int):Option (Ctl (Int) (Int×Int) (Unit)):=
 bif (decide (0≤s0.2))then
  chk (0≤s0.2∧s0.2<(↑a0.length:Int)) <|
  bif (decide (((get a0 s0.2.toNat).kind)=3))then
   bif (decide (s0.1=0))then
    some (.ret s0.2)
   else
    some (.nxt ((wr .i64 (s0.1-1)),(get a0 s0.2.toNat).up))
  else
   some (.nxt (s0.1,(get a0 s0.2.toNat).up))
 else
  some (.brk ())
def aH(t0:Unit):Option (Int):=
 some (-1)
def O1(n:Nat)(a0:(List B6))(a1:Int):Option (Int):=
 chk (0≤a1∧a1<(↑a0.length:Int)) <|
 C6 (V9 (G6 a0) n ((get a0 a1.toNat).index,(get a0 a1.toNat).up)) (aH)
def cD(a0:u0)(a1:u0):Option (u0):=
 some (u0.mk [] [a0,a1])
def E3:Nat→(u0)→Option (Bs)
 |0,_=>none
 |n+1,a0=>
  bif (!decide (a0.base=[]))then
   some a0.base
  else
   chk (0<(↑a0.args.length:Int)) <|
   (E3 n (get a0.args 0)).bind fun v2=>
   chk (gO [40] v2) <|
   chk (gO (tA [40] v2) [32]) <|
   chk (1<(↑a0.args.length:Int)) <|
   (E3 n (get a0.args 1)).bind fun v6=>
   chk (gO (tA (tA [40] v2) [32]) v6) <|
   chk (gO (tA (tA (tA [40] v2) [32]) v6) [41]) <|
   some (tA (tA (tA (tA [40] v2) [32]) v6) [41])
def Q9(n:Nat)(a0:u0)(a1:u0):Option (Bool):=
 (E3 n a0).bind fun v1=>
 (E3 n a1).bind fun v2=>
 some (decide (v1=v2))
def J7(n:Nat)(v1:(List B6))(s0:(List u0)×Int):Option (Ctl (u0×Bool) ((List u0)×Int) ((List u0))):=
 bif (decide (0≤s0.2))then
  chk (0≤s0.2∧s0.2<(↑v1.length:Int)) <|
  bif (decide (((get v1 s0.2.toNat).kind)=1))then
   chk (s0.2<(↑s0.1.length:Int)) <|
   cR (s0.1.set s0.2.toNat ((get v1 s0.2.toNat).typ)) fun c54=>
   some (.nxt (c54,(wr .i64 (s0.2-1))))
  else
   bif (decide (((get v1 s0.2.toNat).kind)=2))then
    (O1 n v1 s0.2).bind fun v57=>
    chk (0≤v57∧v57<(↑v1.length:Int)) <|
    chk (s0.2<(↑s0.1.length:Int)) <|
    cR (s0.1.set s0.2.toNat ((get v1 v57.toNat).typ)) fun c63=>
    some (.nxt (c63,(wr .i64 (s0.2-1))))
   else
    bif (decide (((get v1 s0.2.toNat).kind)=3))then
     chk (0<(↑(((get v1 s0.2.toNat).kids).length):Int)) <|
     chk (0≤(get ((get v1 s0.2.toNat).kids) 0)∧(get ((get v1 s0.2.toNat).kids) 0)<(↑s0.1.length:Int)) <|
     (cD ((get v1 s0.2.toNat).typ) (get s0.1 ((get ((get v1 s0.2.toNat).kids) 0).toNat))).bind fun v71=>
     chk (s0.2<(↑s0.1.length:Int)) <|
     cR (s0.1.set s0.2.toNat v71) fun c75=>
     some (.nxt (c75,(wr .i64 (s0.2-1))))
    else
     bif (decide (((get v1 s0.2.toNat).kind)=4))then
      chk (0<(↑(((get v1 s0.2.toNat).kids).length):Int)) <|
      chk (0≤(get ((get v1 s0.2.toNat).kids) 0)∧(get ((get v1 s0.2.toNat).kids) 0)<(↑s0.1.length:Int)) <|
      chk (1<(↑(((get v1 s0.2.toNat).kids).length):Int)) <|
      chk (0≤(get ((get v1 s0.2.toNat).kids) 1)∧(get ((get v1 s0.2.toNat).kids) 1)<(↑s0.1.length:Int)) <|
      chk (fX (!(bif (!decide (((get s0.1 ((get ((get v1 s0.2.toNat).kids) 0).toNat)).base)=[]))then true else(!decide ((↑(((get s0.1 ((get ((get v1 s0.2.toNat).kids) 0).toNat)).args).length):Int)=2)))) (0<(↑(((get s0.1 ((get ((get v1 s0.2.toNat).kids) 0).toNat)).args).length):Int))) <|
      (gd (!(bif (!decide (((get s0.1 ((get ((get v1 s0.2.toNat).kids) 0).toNat)).base)=[]))then true else(!decide ((↑(((get s0.1 ((get ((get v1 s0.2.toNat).kids) 0).toNat)).args).length):Int)=2)))) (Q9 n (get ((get s0.1 ((get ((get v1 s0.2.toNat).kids) 0).toNat)).args) 0) (get s0.1 ((get ((get v1 s0.2.toNat).kids) 1).toNat))) default).bind fun v90=>
      bif (bif (bif (!decide (((get s0.1 ((get ((get v1 s0.2.toNat).kids) 0).toNat)).base)=[]))then true else(!decide ((↑(((get s0.1 ((get ((get v1 s0.2.toNat).kids) 0).toNat)).args).length):Int)=2)))then true else(!v90))then
       some (.ret ((u0.mk [] []),false))
      else
       chk (1<(↑(((get s0.1 ((get ((get v1 s0.2.toNat).kids) 0).toNat)).args).length):Int)) <|
       chk (s0.2<(↑s0.1.length:Int)) <|
       cR (s0.1.set s0.2.toNat (get ((get s0.1 ((get ((get v1 s0.2.toNat).kids) 0).toNat)).args) 1)) fun c95=>
       some (.nxt (c95,(wr .i64 (s0.2-1))))
     else
      some (.nxt (s0.1,(wr .i64 (s0.2-1))))
 else
  some (.brk s0.1)
def T8(t0:(List u0)):Option (u0×Bool):=
 chk (0<(↑t0.length:Int)) <|
 some ((get t0 0),true)
def T3(n:Nat)(a0:w6):Option (u0×Bool):=
 (CS n a0).bind fun v1=>
 chk (v1.length*40≤top∧v1.length≤top) <|
 C6 (V9 (J7 n v1) n ((List.replicate v1.length (default:u0)),(wr .i64 ((↑v1.length:Int)-1)))) (T8)
def Q7(s0:(List w9)×Int×Nat)(j5:Int)(s6:(List w9)×Int×Nat):Option (Ctl (Ctl (w5) ((List w9)×Int×Nat) (Unit)) ((List w9)×Int×Nat) ((List w9)×Nat)):=
 bif (decide (0≤s6.2.1))then
  chk (0≤s6.2.1∧s6.2.1<(↑(((get s0.1 ((wr .i64 ((↑s0.2.2:Int)-1)).toNat)).t.args).length):Int)) <|
  chk (s6.2.2≤s6.1.length) <|
  cR ((s6.1.take s6.2.2)++[(w9.mk (get ((get s0.1 ((wr .i64 ((↑s0.2.2:Int)-1)).toNat)).t.args) s6.2.1.toNat) (wr .i64 (((get s0.1 ((wr .i64 ((↑s0.2.2:Int)-1)).toNat)).depth)+1)) j5)]) fun c57=>
  chk (c57.length*112≤top∧c57.length≤top) <|
  some (.nxt (c57,(wr .i64 (s6.2.1-1)),c57.length))
 else
  some (.brk (s6.1,s6.2.2))
def Q8(s0:(List w9)×Int×Nat)(t6:(List w9)×Nat):Option (Ctl (w5) ((List w9)×Int×Nat) (Unit)):=
 some (.nxt (t6.1,(wr .i64 (s0.2.1+1)),t6.2))
def G5(n:Nat)(s0:(List w9)×Int×Nat)(j5:Int):Option (Ctl (w5) ((List w9)×Int×Nat) (Unit)):=
 C6 (V9 (Q7 s0 j5) n (s0.1,(wr .i64 ((↑(((get s0.1 ((wr .i64 ((↑s0.2.2:Int)-1)).toNat)).t.args).length):Int)-1)),(wr .i64 ((↑s0.2.2:Int)-1)).toNat)) (Q8 s0)
def C5(n:Nat)(s0:(List w9)×Int×Nat)(j4:Int):Option (Ctl (w5) ((List w9)×Int×Nat) (Unit)):=
 bif (!decide (j4=0))then
  some (.ret (w5.mk j4 s0.2.1))
 else
  bif (decide (((get s0.1 ((wr .i64 ((↑s0.2.2:Int)-1)).toNat)).t.kind)=3))then
   G5 n s0 (wr .i64 (((get s0.1 ((wr .i64 ((↑s0.2.2:Int)-1)).toNat)).bound)+1))
  else
   G5 n s0 ((get s0.1 ((wr .i64 ((↑s0.2.2:Int)-1)).toNat)).bound)
def C0(n:Nat)(s0:(List w9)×Int×Nat):Option (Ctl (w5) ((List w9)×Int×Nat) (Unit)):=
 bif (decide (0<(↑s0.2.2:Int)))then
  chk (s0.2.2≤s0.1.length) <|
  chk (0≤(wr .i64 ((↑s0.2.2:Int)-1))∧(wr .i64 ((↑s0.2.2:Int)-1))<(↑s0.2.2:Int)) <|
  chk ((wr .i64 ((↑s0.2.2:Int)-1)).toNat≤s0.2.2) <|
  bif (bif (decide (200≤s0.2.1))then true else(decide (40<((get s0.1 ((wr .i64 ((↑s0.2.2:Int)-1)).toNat)).depth))))then
   C5 n s0 1
  else
   bif (bif (decide (((get s0.1 ((wr .i64 ((↑s0.2.2:Int)-1)).toNat)).t.kind)<1))then true else(decide (4<((get s0.1 ((wr .i64 ((↑s0.2.2:Int)-1)).toNat)).t.kind))))then
    C5 n s0 4
   else
    chk (0≤(get s0.1 ((wr .i64 ((↑s0.2.2:Int)-1)).toNat)).t.kind∧(get s0.1 ((wr .i64 ((↑s0.2.2:Int)-1)).toNat)).t.kind<5) <|
    (gd ((bif (bif (decide ((↑(((get s0.1 ((wr .i64 ((↑s0.2.2:Int)-1)).toNat)).t.args).length):Int)=(get [0,0,0,1,2] (((get s0.1 ((wr .i64 ((↑s0.2.2:Int)-1)).toNat)).t.kind).toNat))))then(bif (decide (((get s0.1 ((wr .i64 ((↑s0.2.2:Int)-1)).toNat)).t.kind)=1))then true else(decide (((get s0.1 ((wr .i64 ((↑s0.2.2:Int)-1)).toNat)).t.name)=[])))else false)then(bif (decide (((get s0.1 ((wr .i64 ((↑s0.2.2:Int)-1)).toNat)).t.kind)=2))then true else(decide (((get s0.1 ((wr .i64 ((↑s0.2.2:Int)-1)).toNat)).t.index)=0)))else false)&&(!(bif (decide (((get s0.1 ((wr .i64 ((↑s0.2.2:Int)-1)).toNat)).t.kind)=1))then true else(decide (((get s0.1 ((wr .i64 ((↑s0.2.2:Int)-1)).toNat)).t.kind)=3))))) (T2 ((get s0.1 ((wr .i64 ((↑s0.2.2:Int)-1)).toNat)).t.type)) default).bind fun v41=>
    bif (!(bif (bif (bif (decide ((↑(((get s0.1 ((wr .i64 ((↑s0.2.2:Int)-1)).toNat)).t.args).length):Int)=(get [0,0,0,1,2] (((get s0.1 ((wr .i64 ((↑s0.2.2:Int)-1)).toNat)).t.kind).toNat))))then(bif (decide (((get s0.1 ((wr .i64 ((↑s0.2.2:Int)-1)).toNat)).t.kind)=1))then true else(decide (((get s0.1 ((wr .i64 ((↑s0.2.2:Int)-1)).toNat)).t.name)=[])))else false)then(bif (decide (((get s0.1 ((wr .i64 ((↑s0.2.2:Int)-1)).toNat)).t.kind)=2))then true else(decide (((get s0.1 ((wr .i64 ((↑s0.2.2:Int)-1)).toNat)).t.index)=0)))else false)then(bif (bif (decide (((get s0.1 ((wr .i64 ((↑s0.2.2:Int)-1)).toNat)).t.kind)=1))then true else(decide (((get s0.1 ((wr .i64 ((↑s0.2.2:Int)-1)).toNat)).t.kind)=3)))then true else v41)else false))then
     C5 n s0 5
    else
     (gd (decide (((get s0.1 ((wr .i64 ((↑s0.2.2:Int)-1)).toNat)).t.kind)=1)) (W4 n ((get s0.1 ((wr .i64 ((↑s0.2.2:Int)-1)).toNat)).t.name)) default).bind fun v42=>
     bif (bif (decide (((get s0.1 ((wr .i64 ((↑s0.2.2:Int)-1)).toNat)).t.kind)=1))then(!v42)else false)then
      C5 n s0 10
     else
      (gd (bif (decide (((get s0.1 ((wr .i64 ((↑s0.2.2:Int)-1)).toNat)).t.kind)=1))then true else(decide (((get s0.1 ((wr .i64 ((↑s0.2.2:Int)-1)).toNat)).t.kind)=3))) (L1 n ((get s0.1 ((wr .i64 ((↑s0.2.2:Int)-1)).toNat)).t.type)) default).bind fun v43=>
      bif (bif (bif (decide (((get s0.1 ((wr .i64 ((↑s0.2.2:Int)-1)).toNat)).t.kind)=1))then true else(decide (((get s0.1 ((wr .i64 ((↑s0.2.2:Int)-1)).toNat)).t.kind)=3)))then(!decide (v43=0))else false)then
       C5 n s0 12
      else
       bif (bif (decide (((get s0.1 ((wr .i64 ((↑s0.2.2:Int)-1)).toNat)).t.kind)=2))then(bif (decide (((get s0.1 ((wr .i64 ((↑s0.2.2:Int)-1)).toNat)).t.index)<0))then true else(decide (((get s0.1 ((wr .i64 ((↑s0.2.2:Int)-1)).toNat)).bound)≤((get s0.1 ((wr .i64 ((↑s0.2.2:Int)-1)).toNat)).t.index))))else false)then
        C5 n s0 15
       else
        C5 n s0 0
 else
  some (.brk ())
def R0(n:Nat)(a0:w6)(t0:Unit):Option (w5):=
 (T3 n a0).bind fun v62=>
 bif (!v62.2)then
  some (w5.mk 12 (-1))
 else
  some (w5.mk 0 0)
def O2(n:Nat)(a0:w6):Option (w5):=
 C6 (V9 (C0 n) n ([(w9.mk a0 1 0)],0,1)) (R0 n a0)
def G7(n:Nat)(a0:w6):Option (w5):=
 (O2 n a0).bind fun v1=>
 some v1
def F4(a1:w8)(k0:Nat)(s0:Unit):Option (Ctl (Int) (Unit) (Unit)):=
 (K6 a1.graph 0 (↑k0:Int)).bind fun v2=>
 bif (!decide ((decide (0≤v2))=(decide ((↑k0:Int)≤a1.kids))))then
  some (.ret 5)
 else
  some (.nxt ())
def R2(n:Nat)(a1:w8)(t0:Unit):Option (Int):=
 (G7 n a1.meaning).bind fun v3=>
 some v3.code
def O4(n:Nat)(a0:x7)(a1:w8):Option (Int):=
 bif (bif (bif (bif (decide (a1.kids<1))then true else(decide (3<a1.kids)))then true else(decide (a1.weight<0)))then true else(decide (1000000<a1.weight)))then
  some 3
 else
  (F5 n a0 a1.graph).bind fun v1=>
  bif (!decide (v1.code=0))then
   some v1.code
  else
   C6 (E0 (F4 a1) 4 ()) (R2 n a1)
def D2(j0:Int×Int×Int)(a0:Bs)(s1:Int×Int):Option (Ctl (Int) (Int×Int) (Int)):=
 bif (decide (s1.2<j0.1))then
  chk (0≤s1.2∧s1.2<(↑a0.length:Int)) <|
  bif (bif (decide ((y8 a0 s1.2)<128))then true else(decide (191<(y8 a0 s1.2))))then
   some (.ret 0)
  else
   some (.nxt ((wr .i64 ((wr .i64 ((wr .i64 (64*s1.1))+(wr .i64 (y8 a0 s1.2))))-128)),(wr .i64 (s1.2+1))))
 else
  some (.brk s1.1)
def P2(j0:Int×Int×Int)(t1:Int):Option (Int):=
 bif (bif (bif (decide (t1<j0.2.1))then true else(decide (1114111<t1)))then true else(bif (decide (55296≤t1))then(decide (t1≤57343))else false))then
  some 0
 else
  some j0.1
def D8(n:Nat)(a0:Bs)(j0:Int×Int×Int):Option (Int):=
 bif (decide ((↑a0.length:Int)<j0.1))then
  some 0
 else
  C6 (V9 (D2 j0 a0) n (j0.2.2,1)) (P2 j0)
def M4(n:Nat)(a0:Bs):Option (Int):=
 chk (0<(↑a0.length:Int)) <|
 bif (decide ((y8 a0 0)<128))then
  some 1
 else
  bif (bif (decide (194≤(y8 a0 0)))then(decide ((y8 a0 0)≤223))else false)then
   D8 n a0 (2,128,(wr .i64 ((wr .i64 (y8 a0 0))-192)))
  else
   bif (bif (decide (224≤(y8 a0 0)))then(decide ((y8 a0 0)≤239))else false)then
    D8 n a0 (3,2048,(wr .i64 ((wr .i64 (y8 a0 0))-224)))
   else
    bif (bif (decide (240≤(y8 a0 0)))then(decide ((y8 a0 0)≤244))else false)then
     D8 n a0 (4,65536,(wr .i64 ((wr .i64 (y8 a0 0))-240)))
    else
     some 0
def X5(a0:Bs)(s0:Nat×Int):Option (Ctl (Bool) (Nat×Int) (Int)):=
 bif (decide (s0.1<a0.length))then
  chk (s0.1<a0.length) <|
  bif (bif (bif (bif (bif (bif (bif (bif (bif (decide ((rune a0 s0.1)=32))then true else(decide ((rune a0 s0.1)=9)))then true else(decide ((rune a0 s0.1)=10)))then true else(decide ((rune a0 s0.1)=40)))then true else(decide ((rune a0 s0.1)=41)))then true else(decide ((rune a0 s0.1)=91)))then true else(decide ((rune a0 s0.1)=93)))then true else(decide ((rune a0 s0.1)=44)))then true else(decide ((rune a0 s0.1)=59)))then
   some (.ret false)
  else
   some (.nxt ((s0.1+fD a0 s0.1),(wr .i64 (s0.2+1))))
 else
  some (.brk s0.2)
def X7(n:Nat)(a0:Bs)(s1:Int):Option (Ctl (Bool) (Int) (Unit)):=
 bif (decide (s1<(↑a0.length:Int)))then
  chk (0≤s1∧s1.toNat≤a0.length) <|
  (M4 n (a0.drop s1.toNat)).bind fun v8=>
  bif (decide (v8=0))then
   some (.ret false)
  else
   some (.nxt (wr .i64 (s1+v8)))
 else
  some (.brk ())
def br(t1:Unit):Option (Bool):=
 some true
def X6(n:Nat)(a0:Bs)(t0:Int):Option (Bool):=
 bif (bif (decide (t0<1))then true else(decide (30<t0)))then
  some false
 else
  C6 (V9 (X7 n a0) n 0) (br)
def W7(n:Nat)(a0:Bs):Option (Bool):=
 C6 (V9 (X5 a0) n (0,0)) (X6 n a0)
def R3(n:Nat)(a0:x7)(a1:D0):Option (Int):=
 (W7 n a1.word).bind fun v1=>
 bif (!v1)then
  some 10
 else
  bif (bif (decide (a1.weight<0))then true else(decide (1000000<a1.weight)))then
   some 3
  else
   (F5 n a0 a1.graph).bind fun v2=>
   bif (!decide (v2.code=0))then
    some v2.code
   else
    (G7 n a1.meaning).bind fun v3=>
    some v3.code
def H7(a0:y7)(k0:Nat)(k1:Nat)(s1:Unit):Option (Ctl (Ctl (w5) (Unit) (Unit)) (Unit) (Unit)):=
 bif (decide (((get (a0.rules.take k0) k1).name)=((get a0.rules k0).name)))then
  some (.ret (.ret (w5.mk 7 (↑k0:Int))))
 else
  some (.nxt ())
def L5(n:Nat)(a0:y7)(k0:Nat)(t1:Unit):Option (Ctl (w5) (Unit) (Unit)):=
 (O4 n a0.hierarchy (get a0.rules k0)).bind fun v5=>
 bif (!decide (v5=0))then
  some (.ret (w5.mk v5 (↑k0:Int)))
 else
  some (.nxt ())
def L4(n:Nat)(a0:y7)(k0:Nat)(s0:Unit):Option (Ctl (w5) (Unit) (Unit)):=
 (N8 ((get a0.rules k0).name)).bind fun v2=>
 bif (!v2)then
  some (.ret (w5.mk 10 (↑k0:Int)))
 else
  chk (0≤(↑k0:Int)∧k0≤a0.rules.length) <|
  C6 (E0 (H7 a0 k0) ((a0.rules.take k0).length) ()) (L5 n a0 k0)
def L7(n:Nat)(a0:y7)(k2:Nat)(s2:Unit):Option (Ctl (w5) (Unit) (Unit)):=
 (R3 n a0.hierarchy (get a0.B3 k2)).bind fun v6=>
 bif (!decide (v6=0))then
  some (.ret (w5.mk v6 (↑k2:Int)))
 else
  some (.nxt ())
def L8(n:Nat)(a0:y7)(t2:Unit):Option (w5):=
 (F5 n a0.hierarchy a0.start).bind fun v7=>
 bif (!decide (v7.code=0))then
  some (w5.mk v7.code (-1))
 else
  some (w5.mk 0 0)
def L6(n:Nat)(a0:y7)(t0:Unit):Option (w5):=
 C6 (E0 (L7 n a0) a0.B3.length ()) (L8 n a0)
def K7(n:Nat)(a0:y7):Option (w5):=
 (I4 n a0.hierarchy).bind fun v1=>
 bif (!decide (v1.code=0))then
  some v1
 else
  bif (decide ((↑a0.hierarchy.C2.length:Int)≤3))then
   some (w5.mk 9 (-1))
  else
   bif (bif (decide (40<(↑a0.rules.length:Int)))then true else(decide (100<(↑a0.B3.length:Int))))then
    some (w5.mk 2 (-1))
   else
    C6 (E0 (L4 n a0) a0.rules.length ()) (L6 n a0)
def F7(s0:Int)(j2:Int):Option (Ctl (w5) (Int) (Unit)):=
 bif (bif (decide (j2<0))then true else(decide (1000000<j2)))then
  some (.ret (w5.mk 3 s0))
 else
  some (.nxt (wr .i64 (s0+1)))
def I5(a1:C4)(s0:Int):Option (Ctl (w5) (Int) (Unit)):=
 bif (decide (s0<(wr .i64 ((↑a1.rules.length:Int)+(↑a1.B3.length:Int)))))then
  bif (decide (s0<(↑a1.rules.length:Int)))then
   chk (0≤s0∧s0<(↑a1.rules.length:Int)) <|
   F7 s0 (get a1.rules s0.toNat)
  else
   chk (0≤(wr .i64 (s0-(↑a1.rules.length:Int)))∧(wr .i64 (s0-(↑a1.rules.length:Int)))<(↑a1.B3.length:Int)) <|
   F7 s0 (get a1.B3 ((wr .i64 (s0-(↑a1.rules.length:Int))).toNat))
 else
  some (.brk ())
def N5(t0:Unit):Option (w5):=
 some (w5.mk 0 0)
def H8(n:Nat)(a0:y7)(a1:C4):Option (w5):=
 (K7 n a0).bind fun v1=>
 bif (!decide (v1.code=0))then
  some v1
 else
  bif (bif (!decide ((↑a1.rules.length:Int)=(↑a0.rules.length:Int)))then true else(!decide ((↑a1.B3.length:Int)=(↑a0.B3.length:Int))))then
   some (w5.mk 9 (-2))
  else
   C6 (V9 (I5 a1) n 0) (N5)
def G1(a0:y7)(a1:Int)(a2:Int):Option (Int):=
 bif (decide (a1<0))then
  chk (0≤a2∧a2<(↑a0.B3.length:Int)) <|
  chk (0<(↑(((get a0.B3 a2.toNat).graph.nodes).length):Int)) <|
  some ((get ((get a0.B3 a2.toNat).graph.nodes) 0).type)
 else
  chk (0≤a1∧a1<(↑a0.rules.length:Int)) <|
  (K6 ((get a0.rules a1.toNat).graph) 0 0).bind fun v6=>
  chk (0≤v6∧v6<(↑(((get a0.rules a1.toNat).graph.nodes).length):Int)) <|
  some ((get ((get a0.rules a1.toNat).graph.nodes) v6.toNat).type)
def dy(a0:Int)(a2:Int)(a1:Int)(j1:Unit):Option (Int×Int):=
 bif (decide (a0=0))then
  chk (a2≠0∧InK .u64 (Int.tdiv a1 a2)) <|
  some ((Int.tdiv a1 a2),(Int.tmod a1 a2))
 else
  none
def dx(a2:Int)(a0:Int)(a1:Int)(j0:Unit):Option (Int×Int):=
 bif (decide (a2≤a0))then
  none
 else
  dy a0 a2 a1 ()
def cG(a0:Int)(a1:Int)(a2:Int):Option (Int×Int):=
 bif (decide (a2=0))then
  none
 else
  dx a2 a0 a1 ()
def jE(n:Nat)(v1:Int)(a1:w7)(a0:w7)(j0:Bool×Int×Int):Option (w7×w5):=
 bif (bif (decide (j0.2.1=0))then(decide (j0.2.2=0))else false)then
  some ((w7.mk 0 1),(w5.mk 0 0))
 else
  (cG (Int.tmod j0.2.1 v1) j0.2.2 v1).bind fun v13=>
  (hH n v13.2 v1).bind fun v14=>
  chk (v14≠0∧InK .u64 (Int.tdiv j0.2.1 v14)) <|
  (cG (Int.tmod j0.2.1 v14) j0.2.2 v14).bind fun v17=>
  chk (InK .u64 (Int.tdiv (wr .u64 a1.den) v14)) <|
  (dG (Int.tdiv (wr .u64 a0.den) v1) (Int.tdiv (wr .u64 a1.den) v14)).bind fun v19=>
  bif (bif (!decide ((Int.tdiv j0.2.1 v14)=0))then true else(!v19.2))then
   some ((w7.mk 0 0),(w5.mk 18 0))
  else
   (rR j0.1 v17.1 v19.1).bind fun v20=>
   some (v20.1,v20.2)
def lY(n:Nat)(v1:Int)(a1:w7)(a0:w7)(j1:Int×Int×Int×Bool×Int):Option (w7×w5):=
 (yB j1.1 j1.2.2.1 0).bind fun v11=>
 (yB j1.2.2.2.2 j1.2.1 v11.2).bind fun v12=>
 jE n v1 a1 a0 (j1.2.2.2.1,v12.1,v11.1)
def rZ(n:Nat)(a0:w7)(a1:w7):Option (w7×w5):=
 (hH n (wr .u64 a0.den) (wr .u64 a1.den)).bind fun v1=>
 (eD a0.num).bind fun v2=>
 chk (v1≠0∧InK .u64 (Int.tdiv (wr .u64 a1.den) v1)) <|
 (aQ v2 (Int.tdiv (wr .u64 a1.den) v1)).bind fun v5=>
 (eD a1.num).bind fun v6=>
 chk (InK .u64 (Int.tdiv (wr .u64 a0.den) v1)) <|
 (aQ v6 (Int.tdiv (wr .u64 a0.den) v1)).bind fun v8=>
 bif (decide ((decide (a0.num<0))=(decide (a1.num<0))))then
  (rA v5.2 v8.2 0).bind fun v9=>
  (rA v5.1 v8.1 v9.2).bind fun v10=>
  jE n v1 a1 a0 ((decide (a0.num<0)),v10.1,v9.1)
 else
  bif (bif (decide (v5.1<v8.1))then true else(bif (decide (v5.1=v8.1))then(decide (v5.2<v8.2))else false))then
   lY n v1 a1 a0 (v8.2,v5.1,v5.2,(!(decide (a0.num<0))),v8.1)
  else
   lY n v1 a1 a0 (v5.2,v8.1,v8.2,(decide (a0.num<0)),v5.1)
def lT(n:Nat)(a0:(List w7))(k0:Nat)(s0:Unit):Option (Ctl (w7×w5) (Unit) (Unit)):=
 (hY n (get a0 k0) (↑k0:Int)).bind fun v1=>
 bif (!decide (v1.code=0))then
  some (.ret ((w7.mk 0 0),v1))
 else
  some (.nxt ())
def lV(n:Nat)(a0:(List w7))(k1:Nat)(s1:Int×Int):Option (Ctl (w7×w5) (Int×Int) (Int×Int)):=
 (rZ n (w7.mk s1.1 s1.2) (get a0 k1)).bind fun v3=>
 bif (!decide (v3.2.code=0))then
  some (.ret ((w7.mk 0 0),(w5.mk v3.2.code (↑k1:Int))))
 else
  some (.nxt (v3.1.num,v3.1.den))
def lW(t1:Int×Int):Option (w7×w5):=
 some ((w7.mk t1.1 t1.2),(w5.mk 0 0))
def lU(n:Nat)(a0:(List w7))(t0:Unit):Option (w7×w5):=
 C6 (E0 (lV n a0) a0.length (0,1)) (lW)
def pz(n:Nat)(a0:(List w7)):Option (w7×w5):=
 bif (decide (300<(↑a0.length:Int)))then
  some ((w7.mk 0 0),(w5.mk 2 (-1)))
 else
  C6 (E0 (lT n a0) a0.length ()) (lU n a0)
def K1(v2:(List w7)×(List w7)×w5)(a0:y7)(s0:Int)(a1:C4)(s4:(List w7)×Int×Int):Option (Ctl (Ctl (Bool) (Int) (Unit)) ((List w7)×Int×Int) ((List w7)×Int)):=
 bif (decide (s4.2.2<(↑v2.1.length:Int)))then
  (G1 a0 s4.2.2 0).bind fun v72=>
  bif (decide (v72=s0))then
   chk (0≤s4.2.2∧s4.2.2<(↑v2.1.length:Int)) <|
   cR (s4.1++[(get v2.1 s4.2.2.toNat)]) fun c76=>
   chk (c76.length*16≤top∧c76.length≤top) <|
   chk (s4.2.2<(↑a1.rules.length:Int)) <|
   some (.nxt (c76,(wr .i64 (s4.2.1+(get a1.rules s4.2.2.toNat))),(wr .i64 (s4.2.2+1))))
  else
   some (.nxt (s4.1,s4.2.1,(wr .i64 (s4.2.2+1))))
 else
  some (.brk (s4.1,s4.2.1))
def K3(v2:(List w7)×(List w7)×w5)(a0:y7)(s0:Int)(a1:C4)(s5:(List w7)×Int×Int):Option (Ctl (Ctl (Bool) (Int) (Unit)) ((List w7)×Int×Int) ((List w7)×Int)):=
 bif (decide (s5.2.2<(↑v2.2.1.length:Int)))then
  (G1 a0 (-1) s5.2.2).bind fun v91=>
  bif (decide (v91=s0))then
   chk (0≤s5.2.2∧s5.2.2<(↑v2.2.1.length:Int)) <|
   cR (s5.1++[(get v2.2.1 s5.2.2.toNat)]) fun c95=>
   chk (c95.length*16≤top∧c95.length≤top) <|
   chk (s5.2.2<(↑a1.B3.length:Int)) <|
   some (.nxt (c95,(wr .i64 (s5.2.1+(get a1.B3 s5.2.2.toNat))),(wr .i64 (s5.2.2+1))))
  else
   some (.nxt (s5.1,s5.2.1,(wr .i64 (s5.2.2+1))))
 else
  some (.brk (s5.1,s5.2.1))
def E9(v101:w7×w5)(s0:Int)(j6:Int):Option (Ctl (Bool) (Int) (Unit)):=
 bif (bif (!decide (v101.2.code=0))then true else(!(decide (v101.1.num=j6)&&(decide (v101.1.den=1)))))then
  some (.ret false)
 else
  some (.nxt (wr .i64 (s0+1)))
def K4(n:Nat)(s0:Int)(t5:(List w7)×Int):Option (Ctl (Bool) (Int) (Unit)):=
 (pz n t5.1).bind fun v101=>
 bif (decide (0<t5.2))then
  E9 v101 s0 1
 else
  E9 v101 s0 0
def K2(n:Nat)(v2:(List w7)×(List w7)×w5)(a0:y7)(s0:Int)(a1:C4)(t4:(List w7)×Int):Option (Ctl (Bool) (Int) (Unit)):=
 C6 (V9 (K3 v2 a0 s0 a1) n (t4.1,t4.2,0)) (K4 n s0)
def K0(n:Nat)(a0:y7)(v2:(List w7)×(List w7)×w5)(a1:C4)(s0:Int):Option (Ctl (Bool) (Int) (Unit)):=
 bif (decide (s0<(↑a0.hierarchy.types.length:Int)))then
  C6 (V9 (K1 v2 a0 s0 a1) n ([],0,0)) (K2 n v2 a0 s0 a1)
 else
  some (.brk ())
def R7(t0:Unit):Option (Bool):=
 some true
def N6(n:Nat)(a0:y7)(a1:C4):Option (Bool):=
 (M7 n).bind fun v1=>
 bif (!v1)then
  some false
 else
  (cV n a0 a1).bind fun v2=>
  (gd (!(!decide (v2.2.2.code=0))) (H8 n a0 a1) default).bind fun v3=>
  bif (bif (!decide (v2.2.2.code=0))then true else(!decide (v3.code=0)))then
   some true
  else
   bif (bif (!decide ((↑v2.1.length:Int)=(↑a0.rules.length:Int)))then true else(!decide ((↑v2.2.1.length:Int)=(↑a0.B3.length:Int))))then
    some false
   else
    C6 (V9 (K0 n a0 v2 a1) n 0) (R7)
end Go.Proofs.YtoekkdodipnmpaaGreatDoor

import Derived.Test.YtbgkcolebacbmaaGreatDoorDHand
import Derived.Test.YtbgkcolebacbmaaGreatDoorDRowT
set_option linter.unusedVariables false
set_option linter.unusedSimpArgs false
namespace Go.Proofs.YtbgkcolebacbmaaGreatDoor
open Go Go.Am
def bJ(a0:(List w6))(s0:(List Bool)×Int)(k2:Nat)(s2:(List Bool)):Option (Ctl (Ctl (Bool) ((List Bool)×Int) ((List Bool))) ((List Bool)) ((List Bool))):=
 chk (0≤(get ((get a0 s0.2.toNat).parents) k2)∧(get ((get a0 s0.2.toNat).parents) k2)<(↑s2.length:Int)) <|
 cW (s2.set ((get ((get a0 s0.2.toNat).parents) k2).toNat) true) fun c44=>
 some (.nxt c44)
def bK(s0:(List Bool)×Int)(t2:(List Bool)):Option (Ctl (Bool) ((List Bool)×Int) ((List Bool))):=
 some (.nxt (t2,(wr .i64 (s0.2-1))))
def bI(a2:Int)(a0:(List w6))(s0:(List Bool)×Int):Option (Ctl (Bool) ((List Bool)×Int) ((List Bool))):=
 bif (decide (a2<s0.2))then
  chk (0≤s0.2∧s0.2<(↑s0.1.length:Int)) <|
  bif (get s0.1 s0.2.toNat)then
   chk (s0.2<(↑a0.length:Int)) <|
   C1 (D5 (bJ a0 s0) (((get a0 s0.2.toNat).parents).length) s0.1) (bK s0)
  else
   some (.nxt (s0.1,(wr .i64 (s0.2-1))))
 else
  some (.brk s0.1)
def bL(a2:Int)(t0:(List Bool)):Option (Bool):=
 chk (0≤a2∧a2<(↑t0.length:Int)) <|
 some (get t0 a2.toNat)
def E1(n:Nat)(a0:(List w6))(a1:Int)(a2:Int):Option (Bool):=
 chk (a0.length*1≤top∧a0.length≤top) <|
 chk (0≤a1∧a1<(↑a0.length:Int)) <|
 cW ((List.replicate a0.length (default:Bool)).set a1.toNat true) fun c8=>
 C1 (R6 (bI a2 a0) n (c8,a1)) (bL a2)
def N0(a0:Bs):Option (u0):=
 some (u0.mk a0 [])
def D3(a0:u0)(a1:u0):Option (u0):=
 some (u0.mk [] [a0,a1])
def Y1(a1:(List Int))(a0:(List Bs))(k0:Nat)(s0:(List w6)):Option (Ctl (w5) ((List w6)) ((List w6))):=
 bif (decide (0<(↑k0:Int)))then
  chk ((↑k0:Int)<(↑a1.length:Int)) <|
  cW (s0++[(w6.mk (get a0 k0) [(get a1 k0)])]) fun c14=>
  chk (c14.length*40≤top∧c14.length≤top) <|
  some (.nxt c14)
 else
  chk ((s0.length+1)*40≤top∧s0.length+1≤top) <|
  some (.nxt (s0++[(w6.mk (get a0 k0) [])]))
def Y2(a2:(List y3))(t0:(List w6)):Option (w5):=
 some (w5.mk t0 a2)
def aT(a0:(List Bs))(a1:(List Int))(a2:(List y3)):Option (w5):=
 C1 (D5 (Y1 a1 a0) a0.length []) (Y2 a2)
def B1(a0:Int):Option (w7):=
 some (w7.mk 2 [] a0 (u0.mk [] []) [])
def C5(a0:w7)(a1:w7):Option (w7):=
 some (w7.mk 4 [] 0 (u0.mk [] []) [a0,a1])
def B6(a0:u0)(a1:w7):Option (w7):=
 some (w7.mk 3 [] 0 a0 [a1])
def cI(a0:Bool):Option ((List w7)):=
 (N0 [101]).bind fun v1=>
 (N0 [116]).bind fun v2=>
 (D3 v1 v2).bind fun v3=>
 (D3 v3 v2).bind fun v4=>
 (D3 v1 v3).bind fun v5=>
 (D3 v3 v4).bind fun v6=>
 (B1 1).bind fun v7=>
 (B1 0).bind fun v8=>
 (C5 v7 v8).bind fun v9=>
 (B6 v3 v9).bind fun v10=>
 (B6 v4 v10).bind fun v11=>
 (B1 1).bind fun v12=>
 (B1 0).bind fun v13=>
 (C5 v12 v13).bind fun v14=>
 (B6 v3 v14).bind fun v15=>
 (B6 v6 v15).bind fun v16=>
 (B1 0).bind fun v17=>
 (B6 v3 v17).bind fun v18=>
 (B1 1).bind fun v19=>
 (B1 3).bind fun v20=>
 (B1 1).bind fun v21=>
 (C5 v20 v21).bind fun v22=>
 (B1 0).bind fun v23=>
 (C5 v22 v23).bind fun v24=>
 (B6 v1 v24).bind fun v25=>
 (C5 v19 v25).bind fun v26=>
 (B6 v1 v26).bind fun v27=>
 (B6 v4 v27).bind fun v28=>
 (B6 v5 v28).bind fun v29=>
 (D3 v2 v2).bind fun v30=>
 (B1 2).bind fun v31=>
 (B1 1).bind fun v32=>
 (B1 0).bind fun v33=>
 (C5 v32 v33).bind fun v34=>
 (C5 v31 v34).bind fun v35=>
 (B6 v1 v35).bind fun v36=>
 (B6 v3 v36).bind fun v37=>
 (B6 v30 v37).bind fun v38=>
 (D3 v2 v2).bind fun v39=>
 (D3 v2 v39).bind fun v40=>
 (B1 2).bind fun v41=>
 (B1 3).bind fun v42=>
 (B1 0).bind fun v43=>
 (C5 v42 v43).bind fun v44=>
 (C5 v41 v44).bind fun v45=>
 (B1 1).bind fun v46=>
 (B1 0).bind fun v47=>
 (C5 v46 v47).bind fun v48=>
 (C5 v45 v48).bind fun v49=>
 (B6 v3 v49).bind fun v50=>
 (B6 v4 v50).bind fun v51=>
 (B6 v40 v51).bind fun v52=>
 (B6 v4 v52).bind fun v53=>
 bif a0 then
  (B1 0).bind fun v55=>
  (B1 1).bind fun v56=>
  (C5 v55 v56).bind fun v57=>
  (B6 v4 v57).bind fun v58=>
  (B6 v3 v58).bind fun v59=>
  (B1 0).bind fun v60=>
  (B1 1).bind fun v61=>
  (C5 v60 v61).bind fun v62=>
  (B6 v6 v62).bind fun v63=>
  (B6 v3 v63).bind fun v64=>
  (B1 2).bind fun v65=>
  (B1 2).bind fun v66=>
  (B1 1).bind fun v67=>
  (C5 v66 v67).bind fun v68=>
  (B1 0).bind fun v69=>
  (C5 v68 v69).bind fun v70=>
  (B6 v1 v70).bind fun v71=>
  (C5 v65 v71).bind fun v72=>
  (B6 v1 v72).bind fun v73=>
  (B6 v5 v73).bind fun v74=>
  (B6 v4 v74).bind fun v75=>
  some [v59,v64,v18,v75,v38,v53]
 else
  some [v11,v16,v18,v29,v38,v53]
def br(a0:(List (List Int)))(k0:Nat)(s2:(List D4)×Int):Option (Ctl (Ctl (y4) ((List w8)) ((List w8))) ((List D4)×Int) ((List D4))):=
 bif (decide ((wr .i64 (s2.2+1))<(↑((get a0 k0).length):Int)))then
  chk (0≤s2.2∧s2.2<(↑((get a0 k0).length):Int)) <|
  chk (0≤(wr .i64 (s2.2+1))∧(wr .i64 (s2.2+1))<(↑((get a0 k0).length):Int)) <|
  cW (s2.1++[(D4.mk (get (get a0 k0) s2.2.toNat) (get (get a0 k0) ((wr .i64 (s2.2+1)).toNat)))]) fun c38=>
  chk (c38.length*16≤top∧c38.length≤top) <|
  some (.nxt (c38,(wr .i64 (s2.2+2))))
 else
  some (.brk s2.1)
def bw(s0:(List w8))(a0:(List (List Int)))(k0:Nat)(t2:(List D4)):Option (Ctl (y4) ((List w8)) ((List w8))):=
 chk ((s0.length+1)*32≤top∧s0.length+1≤top) <|
 some (.nxt (s0++[(w8.mk (get (get a0 k0) 0) t2)]))
def bA(n:Nat)(a0:(List (List Int)))(k0:Nat)(s0:(List w8)):Option (Ctl (y4) ((List w8)) ((List w8))):=
 chk (0<(↑((get a0 k0).length):Int)) <|
 C1 (R6 (br a0 k0) n ([],1)) (bw s0 a0 k0)
def bB(t0:(List w8)):Option (y4):=
 some (y4.mk t0)
def E9(n:Nat)(a0:(List (List Int))):Option (y4):=
 C1 (D5 (bA n a0) a0.length []) (bB)
def D0(a0:Bs)(a1:u0):Option (w7):=
 some (w7.mk 1 a0 0 a1 [])
def S2(v3:u0)(j0:Int×Bs×Int×Bs×(List u0)×(List w7)):Option (w7):=
 (B6 v3 (w7.mk j0.1 j0.2.1 j0.2.2.1 (u0.mk j0.2.2.2.1 j0.2.2.2.2.1) j0.2.2.2.2.2)).bind fun v22=>
 (B6 v3 v22).bind fun v23=>
 some v23
def P7(a0:Bs)(a1:Bs)(a2:Bool):Option (w7):=
 (N0 [101]).bind fun v1=>
 (N0 [116]).bind fun v2=>
 (D3 v1 v2).bind fun v3=>
 (D3 v3 v2).bind fun v4=>
 (D0 a0 v4).bind fun v5=>
 (D3 v2 v2).bind fun v6=>
 (D3 v2 v6).bind fun v7=>
 (D0 a1 v7).bind fun v8=>
 (B1 2).bind fun v9=>
 (B1 0).bind fun v10=>
 (C5 v9 v10).bind fun v11=>
 (C5 v8 v11).bind fun v12=>
 (B1 1).bind fun v13=>
 (B1 0).bind fun v14=>
 (C5 v13 v14).bind fun v15=>
 (C5 v12 v15).bind fun v16=>
 (B6 v1 v16).bind fun v17=>
 (C5 v5 v17).bind fun v18=>
 bif a2 then
  (D3 v2 v2).bind fun v19=>
  (D0 [110,111,116] v19).bind fun v20=>
  (C5 v20 v18).bind fun v21=>
  S2 v3 (v21.kind,v21.name,v21.index,v21.type.base,v21.type.args,v21.args)
 else
  S2 v3 (v18.kind,v18.name,v18.index,v18.type.base,v18.type.args,v18.args)
def C0(n:Nat)(a0:Bs)(a1:Int)(a2:w7)(a3:(List (List Int)))(iI:(List w6))(Og:(List y3))(Oh:(List w4))(l1:(List x7))(l2:(List w8)):Option ((List x7)):=
 (E9 n a3).bind fun v1=>
 cW (l1++[(x7.mk a0 v1 a1 a2)]) fun c3=>
 chk (c3.length*144≤top∧c3.length≤top) <|
 some c3
def bN(n:Nat):Option (x6):=
 (N0 [101]).bind fun v1=>
 (N0 [116]).bind fun v2=>
 (D3 v1 v2).bind fun v3=>
 (D3 v1 v3).bind fun v4=>
 (aT [[116,111,112],[114,117,108,101],[115,105,103,110],[110,117,109],[115,105,110,103],[112,108,117,114],[115],[110,112],[118,112],[110],[100,101,116],[105,118],[116,118],[97,100,118],[99,111,110,106]] [0,0,0,0,3,3,2,2,2,2,2,2,2,2,2] [(y3.mk [109,111,116,104,101,114] 1 2),(y3.mk [111,110,101] 1 2),(y3.mk [116,119,111] 1 2),(y3.mk [116,104,114,101,101] 1 2),(y3.mk [110,117,109] 2 3)]).bind fun v8=>
 (cI false).bind fun v9=>
 chk (0<(↑v9.length:Int)) <|
 (E9 n [[1,0,1,1,2,2,4],[6],[7,4,3],[3],[8,4,3]]).bind fun v17=>
 chk (1<(↑v9.length:Int)) <|
 (E9 n [[1,0,1,1,3,2,4],[7,4,2],[3],[10,4,2],[9,4,2]]).bind fun v25=>
 chk (2<(↑v9.length:Int)) <|
 (E9 n [[1,0,1,1,3],[8,4,2],[3],[11,4,2]]).bind fun v32=>
 chk (3<(↑v9.length:Int)) <|
 (E9 n [[1,0,1,1,3,2,4],[8,4,2],[3],[12,4,2],[7]]).bind fun v40=>
 chk (4<(↑v9.length:Int)) <|
 (E9 n [[1,0,1,1,3,2,4],[8,4,2],[3],[13],[8,4,2]]).bind fun v48=>
 chk (5<(↑v9.length:Int)) <|
 (E9 n [[1,0,1,1,3,2,4,3,5],[7,4,2],[5],[7],[14],[7]]).bind fun v57=>
 (P7 [97,108,108] [105,102] false).bind fun v59=>
 (C0 n [101,118,101,114,121] 1 v59 [[10,4,1],[4]] v8.types v8.B5 [(w4.mk [115] v17 2 0 (get v9 0)),(w4.mk [110,112] v25 2 1 (get v9 1)),(w4.mk [118,112,45,105,118] v32 1 0 (get v9 2)),(w4.mk [118,112,45,116,118] v40 2 2 (get v9 3)),(w4.mk [118,112,45,110,111,116] v48 2 3 (get v9 4)),(w4.mk [110,112,45,97,110,100] v57 3 4 (get v9 5))] [] []).bind fun v63=>
 (P7 [115,111,109,101] [97,110,100] false).bind fun v64=>
 (C0 n [97] 0 v64 [[10,4,1],[4]] v8.types v8.B5 [(w4.mk [115] v17 2 0 (get v9 0)),(w4.mk [110,112] v25 2 1 (get v9 1)),(w4.mk [118,112,45,105,118] v32 1 0 (get v9 2)),(w4.mk [118,112,45,116,118] v40 2 2 (get v9 3)),(w4.mk [118,112,45,110,111,116] v48 2 3 (get v9 4)),(w4.mk [110,112,45,97,110,100] v57 3 4 (get v9 5))] v63 []).bind fun v68=>
 (P7 [115,111,109,101] [97,110,100] true).bind fun v69=>
 (C0 n [110,111] 2 v69 [[10]] v8.types v8.B5 [(w4.mk [115] v17 2 0 (get v9 0)),(w4.mk [110,112] v25 2 1 (get v9 1)),(w4.mk [118,112,45,105,118] v32 1 0 (get v9 2)),(w4.mk [118,112,45,116,118] v40 2 2 (get v9 3)),(w4.mk [118,112,45,110,111,116] v48 2 3 (get v9 4)),(w4.mk [110,112,45,97,110,100] v57 3 4 (get v9 5))] v68 []).bind fun v72=>
 (D0 [100,111,103] v3).bind fun v73=>
 (C0 n [100,111,103] 0 v73 [[9,4,1],[4]] v8.types v8.B5 [(w4.mk [115] v17 2 0 (get v9 0)),(w4.mk [110,112] v25 2 1 (get v9 1)),(w4.mk [118,112,45,105,118] v32 1 0 (get v9 2)),(w4.mk [118,112,45,116,118] v40 2 2 (get v9 3)),(w4.mk [118,112,45,110,111,116] v48 2 3 (get v9 4)),(w4.mk [110,112,45,97,110,100] v57 3 4 (get v9 5))] v72 []).bind fun v77=>
 (D0 [100,111,103] v3).bind fun v78=>
 (C0 n [100,111,103,115] 0 v78 [[9,4,1],[5]] v8.types v8.B5 [(w4.mk [115] v17 2 0 (get v9 0)),(w4.mk [110,112] v25 2 1 (get v9 1)),(w4.mk [118,112,45,105,118] v32 1 0 (get v9 2)),(w4.mk [118,112,45,116,118] v40 2 2 (get v9 3)),(w4.mk [118,112,45,110,111,116] v48 2 3 (get v9 4)),(w4.mk [110,112,45,97,110,100] v57 3 4 (get v9 5))] v77 []).bind fun v82=>
 (D0 [99,97,116] v3).bind fun v83=>
 (C0 n [99,97,116] 0 v83 [[9,4,1],[4]] v8.types v8.B5 [(w4.mk [115] v17 2 0 (get v9 0)),(w4.mk [110,112] v25 2 1 (get v9 1)),(w4.mk [118,112,45,105,118] v32 1 0 (get v9 2)),(w4.mk [118,112,45,116,118] v40 2 2 (get v9 3)),(w4.mk [118,112,45,110,111,116] v48 2 3 (get v9 4)),(w4.mk [110,112,45,97,110,100] v57 3 4 (get v9 5))] v82 []).bind fun v87=>
 (D0 [99,97,116] v3).bind fun v88=>
 (C0 n [99,97,116,115] 0 v88 [[9,4,1],[5]] v8.types v8.B5 [(w4.mk [115] v17 2 0 (get v9 0)),(w4.mk [110,112] v25 2 1 (get v9 1)),(w4.mk [118,112,45,105,118] v32 1 0 (get v9 2)),(w4.mk [118,112,45,116,118] v40 2 2 (get v9 3)),(w4.mk [118,112,45,110,111,116] v48 2 3 (get v9 4)),(w4.mk [110,112,45,97,110,100] v57 3 4 (get v9 5))] v87 []).bind fun v92=>
 (D0 [102,105,115,104] v3).bind fun v93=>
 (C0 n [102,105,115,104] 1 v93 [[9,4,1],[4]] v8.types v8.B5 [(w4.mk [115] v17 2 0 (get v9 0)),(w4.mk [110,112] v25 2 1 (get v9 1)),(w4.mk [118,112,45,105,118] v32 1 0 (get v9 2)),(w4.mk [118,112,45,116,118] v40 2 2 (get v9 3)),(w4.mk [118,112,45,110,111,116] v48 2 3 (get v9 4)),(w4.mk [110,112,45,97,110,100] v57 3 4 (get v9 5))] v92 []).bind fun v97=>
 (D0 [102,105,115,104] v3).bind fun v98=>
 (C0 n [102,105,115,104] 2 v98 [[9,4,1],[5]] v8.types v8.B5 [(w4.mk [115] v17 2 0 (get v9 0)),(w4.mk [110,112] v25 2 1 (get v9 1)),(w4.mk [118,112,45,105,118] v32 1 0 (get v9 2)),(w4.mk [118,112,45,116,118] v40 2 2 (get v9 3)),(w4.mk [118,112,45,110,111,116] v48 2 3 (get v9 4)),(w4.mk [110,112,45,97,110,100] v57 3 4 (get v9 5))] v97 []).bind fun v102=>
 (D0 [98,97,114,107] v3).bind fun v103=>
 (C0 n [98,97,114,107,115] 0 v103 [[11,4,1],[4]] v8.types v8.B5 [(w4.mk [115] v17 2 0 (get v9 0)),(w4.mk [110,112] v25 2 1 (get v9 1)),(w4.mk [118,112,45,105,118] v32 1 0 (get v9 2)),(w4.mk [118,112,45,116,118] v40 2 2 (get v9 3)),(w4.mk [118,112,45,110,111,116] v48 2 3 (get v9 4)),(w4.mk [110,112,45,97,110,100] v57 3 4 (get v9 5))] v102 []).bind fun v107=>
 (D0 [98,97,114,107] v3).bind fun v108=>
 (C0 n [98,97,114,107] 0 v108 [[11,4,1],[5]] v8.types v8.B5 [(w4.mk [115] v17 2 0 (get v9 0)),(w4.mk [110,112] v25 2 1 (get v9 1)),(w4.mk [118,112,45,105,118] v32 1 0 (get v9 2)),(w4.mk [118,112,45,116,118] v40 2 2 (get v9 3)),(w4.mk [118,112,45,110,111,116] v48 2 3 (get v9 4)),(w4.mk [110,112,45,97,110,100] v57 3 4 (get v9 5))] v107 []).bind fun v112=>
 (D0 [115,108,101,101,112] v3).bind fun v113=>
 (C0 n [115,108,101,101,112,115] 0 v113 [[11,4,1],[4]] v8.types v8.B5 [(w4.mk [115] v17 2 0 (get v9 0)),(w4.mk [110,112] v25 2 1 (get v9 1)),(w4.mk [118,112,45,105,118] v32 1 0 (get v9 2)),(w4.mk [118,112,45,116,118] v40 2 2 (get v9 3)),(w4.mk [118,112,45,110,111,116] v48 2 3 (get v9 4)),(w4.mk [110,112,45,97,110,100] v57 3 4 (get v9 5))] v112 []).bind fun v117=>
 (D0 [115,108,101,101,112] v3).bind fun v118=>
 (C0 n [115,108,101,101,112] 0 v118 [[11,4,1],[5]] v8.types v8.B5 [(w4.mk [115] v17 2 0 (get v9 0)),(w4.mk [110,112] v25 2 1 (get v9 1)),(w4.mk [118,112,45,105,118] v32 1 0 (get v9 2)),(w4.mk [118,112,45,116,118] v40 2 2 (get v9 3)),(w4.mk [118,112,45,110,111,116] v48 2 3 (get v9 4)),(w4.mk [110,112,45,97,110,100] v57 3 4 (get v9 5))] v117 []).bind fun v122=>
 (D0 [99,104,97,115,101] v4).bind fun v123=>
 (C0 n [99,104,97,115,101,115] 0 v123 [[12,4,1],[4]] v8.types v8.B5 [(w4.mk [115] v17 2 0 (get v9 0)),(w4.mk [110,112] v25 2 1 (get v9 1)),(w4.mk [118,112,45,105,118] v32 1 0 (get v9 2)),(w4.mk [118,112,45,116,118] v40 2 2 (get v9 3)),(w4.mk [118,112,45,110,111,116] v48 2 3 (get v9 4)),(w4.mk [110,112,45,97,110,100] v57 3 4 (get v9 5))] v122 []).bind fun v127=>
 (D0 [99,104,97,115,101] v4).bind fun v128=>
 (C0 n [99,104,97,115,101] 0 v128 [[12,4,1],[5]] v8.types v8.B5 [(w4.mk [115] v17 2 0 (get v9 0)),(w4.mk [110,112] v25 2 1 (get v9 1)),(w4.mk [118,112,45,105,118] v32 1 0 (get v9 2)),(w4.mk [118,112,45,116,118] v40 2 2 (get v9 3)),(w4.mk [118,112,45,110,111,116] v48 2 3 (get v9 4)),(w4.mk [110,112,45,97,110,100] v57 3 4 (get v9 5))] v127 []).bind fun v132=>
 (D0 [115,101,101] v4).bind fun v133=>
 (C0 n [115,101,101,115] 1 v133 [[12,4,1],[4]] v8.types v8.B5 [(w4.mk [115] v17 2 0 (get v9 0)),(w4.mk [110,112] v25 2 1 (get v9 1)),(w4.mk [118,112,45,105,118] v32 1 0 (get v9 2)),(w4.mk [118,112,45,116,118] v40 2 2 (get v9 3)),(w4.mk [118,112,45,110,111,116] v48 2 3 (get v9 4)),(w4.mk [110,112,45,97,110,100] v57 3 4 (get v9 5))] v132 []).bind fun v137=>
 (D0 [115,101,101] v4).bind fun v138=>
 (C0 n [115,101,101] 1 v138 [[12,4,1],[5]] v8.types v8.B5 [(w4.mk [115] v17 2 0 (get v9 0)),(w4.mk [110,112] v25 2 1 (get v9 1)),(w4.mk [118,112,45,105,118] v32 1 0 (get v9 2)),(w4.mk [118,112,45,116,118] v40 2 2 (get v9 3)),(w4.mk [118,112,45,110,111,116] v48 2 3 (get v9 4)),(w4.mk [110,112,45,97,110,100] v57 3 4 (get v9 5))] v137 []).bind fun v142=>
 (D3 v2 v2).bind fun v143=>
 (D0 [110,111,116] v143).bind fun v144=>
 (C0 n [110,111,116] 0 v144 [[13]] v8.types v8.B5 [(w4.mk [115] v17 2 0 (get v9 0)),(w4.mk [110,112] v25 2 1 (get v9 1)),(w4.mk [118,112,45,105,118] v32 1 0 (get v9 2)),(w4.mk [118,112,45,116,118] v40 2 2 (get v9 3)),(w4.mk [118,112,45,110,111,116] v48 2 3 (get v9 4)),(w4.mk [110,112,45,97,110,100] v57 3 4 (get v9 5))] v142 []).bind fun v147=>
 (D3 v2 v2).bind fun v148=>
 (D3 v2 v148).bind fun v149=>
 (D0 [97,110,100] v149).bind fun v150=>
 (C0 n [97,110,100] 0 v150 [[14]] v8.types v8.B5 [(w4.mk [115] v17 2 0 (get v9 0)),(w4.mk [110,112] v25 2 1 (get v9 1)),(w4.mk [118,112,45,105,118] v32 1 0 (get v9 2)),(w4.mk [118,112,45,116,118] v40 2 2 (get v9 3)),(w4.mk [118,112,45,110,111,116] v48 2 3 (get v9 4)),(w4.mk [110,112,45,97,110,100] v57 3 4 (get v9 5))] v147 []).bind fun v153=>
 (B1 0).bind fun v154=>
 (D0 [114,101,120] v1).bind fun v155=>
 (C5 v154 v155).bind fun v156=>
 (B6 v3 v156).bind fun v157=>
 (C0 n [114,101,120] 0 v157 [[7,4,1],[4]] v8.types v8.B5 [(w4.mk [115] v17 2 0 (get v9 0)),(w4.mk [110,112] v25 2 1 (get v9 1)),(w4.mk [118,112,45,105,118] v32 1 0 (get v9 2)),(w4.mk [118,112,45,116,118] v40 2 2 (get v9 3)),(w4.mk [118,112,45,110,111,116] v48 2 3 (get v9 4)),(w4.mk [110,112,45,97,110,100] v57 3 4 (get v9 5))] v153 []).bind fun v161=>
 (B1 0).bind fun v162=>
 (D0 [109,105,97] v1).bind fun v163=>
 (C5 v162 v163).bind fun v164=>
 (B6 v3 v164).bind fun v165=>
 (C0 n [109,105,97] 0 v165 [[7,4,1],[4]] v8.types v8.B5 [(w4.mk [115] v17 2 0 (get v9 0)),(w4.mk [110,112] v25 2 1 (get v9 1)),(w4.mk [118,112,45,105,118] v32 1 0 (get v9 2)),(w4.mk [118,112,45,116,118] v40 2 2 (get v9 3)),(w4.mk [118,112,45,110,111,116] v48 2 3 (get v9 4)),(w4.mk [110,112,45,97,110,100] v57 3 4 (get v9 5))] v161 []).bind fun v169=>
 (E9 n [[6]]).bind fun v172=>
 some (x6.mk v8 [(w4.mk [115] v17 2 0 (get v9 0)),(w4.mk [110,112] v25 2 1 (get v9 1)),(w4.mk [118,112,45,105,118] v32 1 0 (get v9 2)),(w4.mk [118,112,45,116,118] v40 2 2 (get v9 3)),(w4.mk [118,112,45,110,111,116] v48 2 3 (get v9 4)),(w4.mk [110,112,45,97,110,100] v57 3 4 (get v9 5))] v169 v172)
def K9(a0:Int)(a1:Int):Option (w9):=
 some (w9.mk a0 a1)
def nI(a0:Bs)(k0:Nat)(s0:Unit):Option (Ctl (Bool) (Unit) (Unit)):=
 bif (!(bif (bif (bif (bif (decide (97≤(B4 a0 (↑k0:Int))))then(decide ((B4 a0 (↑k0:Int))≤122))else false)then true else(bif (decide (48≤(B4 a0 (↑k0:Int))))then(decide ((B4 a0 (↑k0:Int))≤57))else false))then true else(decide ((B4 a0 (↑k0:Int))=95)))then true else(decide ((B4 a0 (↑k0:Int))=45))))then
  some (.ret false)
 else
  some (.nxt ())
def nJ(t0:Unit):Option (Bool):=
 some true
def termName(a0:Bs):Option (Bool):=
 chk (cV (!(bif (decide ((↑a0.length:Int)=0))then true else(decide (30<(↑a0.length:Int))))) (0<(↑a0.length:Int))) <|
 chk (cV (!(bif (bif (decide ((↑a0.length:Int)=0))then true else(decide (30<(↑a0.length:Int))))then true else(decide ((B4 a0 0)<97)))) (0<(↑a0.length:Int))) <|
 bif (bif (bif (bif (decide ((↑a0.length:Int)=0))then true else(decide (30<(↑a0.length:Int))))then true else(decide ((B4 a0 0)<97)))then true else(decide (122<(B4 a0 0))))then
  some false
 else
  chk (a0.length≤9223372036854775807) <|
  C1 (D5 (nI a0) a0.length ()) (nJ)
def fh(a0:(List w6))(k0:Nat)(k2:Nat)(s2:Int):Option (Ctl (Ctl (w9) ((List (Bs×Int))) ((List (Bs×Int)))) (Int) (Int)):=
 bif (bif (decide ((get ((get a0 k0).parents) k2)<0))then true else(decide ((↑k0:Int)≤(get ((get a0 k0).parents) k2))))then
  (K9 3 (↑k0:Int)).bind fun v20=>
  some (.ret (.ret v20))
 else
  bif (decide ((get ((get a0 k0).parents) k2)≤s2))then
   (K9 13 (↑k0:Int)).bind fun v21=>
   some (.ret (.ret v21))
  else
   some (.nxt (get ((get a0 k0).parents) k2))
def fj(c15:(List (Bs×Int)))(t2:Int):Option (Ctl (w9) ((List (Bs×Int))) ((List (Bs×Int)))):=
 some (.nxt c15)
def eZ(a0:(List w6))(k0:Nat)(s0:(List (Bs×Int))):Option (Ctl (w9) ((List (Bs×Int))) ((List (Bs×Int)))):=
 (termName ((get a0 k0).name)).bind fun v12=>
 bif (!v12)then
  (K9 10 (↑k0:Int)).bind fun v13=>
  some (.ret v13)
 else
  bif (assoc ((get a0 k0).name) s0).isSome then
   (K9 7 (↑k0:Int)).bind fun v14=>
   some (.ret v14)
  else
   cW (M4 ((get a0 k0).name) (↑k0:Int) s0) fun c15=>
   bif (!decide ((decide ((↑k0:Int)=0))=(decide ((↑(((get a0 k0).parents).length):Int)=0))))then
    (K9 5 (↑k0:Int)).bind fun v17=>
    some (.ret v17)
   else
    C1 (D5 (fh a0 k0) (((get a0 k0).parents).length) (-1)) (fj c15)
def iP(t0:(List (Bs×Int))):Option (w9):=
 some (w9.mk 0 0)
def dL(a0:(List w6)):Option (w9):=
 bif (bif (decide ((↑a0.length:Int)=0))then true else(decide (60<(↑a0.length:Int))))then
  (K9 2 (-1)).bind fun v1=>
  some v1
 else
  C1 (D5 (eZ a0) a0.length []) (iP)
def dV(k0:Nat)(a0:(List w6))(k3:Nat)(s3:(List Int)):Option (Ctl (Ctl (B7) ((List Int)×(List Int)) ((List Int)×(List Int))) ((List Int)) ((List Int))):=
 chk ((↑k0:Int)<(↑s3.length:Int)) <|
 chk (0≤(get ((get a0 k0).parents) k3)∧(get ((get a0 k0).parents) k3)<(↑s3.length:Int)) <|
 cW (s3.set k0 (Z5 .or .u64 (get s3 k0) (get s3 ((get ((get a0 k0).parents) k3).toNat)))) fun c86=>
 some (.nxt c86)
def dX(k0:Nat)(t3:(List Int))(k4:Nat)(s4:(List Int)):Option (Ctl (Ctl (B7) ((List Int)×(List Int)) ((List Int)×(List Int))) ((List Int)) ((List Int))):=
 chk ((↑k0:Int)<(↑t3.length:Int)) <|
 chk (0≤(↑k4:Int)) <|
 bif (decide ((Z5 .and .u64 (Int.fdiv (get t3 k0) (2^(min k4 64))) 1)=1))then
  chk ((↑k4:Int)<(↑s4.length:Int)) <|
  cW (s4.set k4 (Z5 .or .u64 (get s4 k4) (wr .u64 (1*2^(min k0 64))))) fun c110=>
  some (.nxt c110)
 else
  some (.nxt s4)
def dY(t3:(List Int))(t4:(List Int)):Option (Ctl (B7) ((List Int)×(List Int)) ((List Int)×(List Int))):=
 some (.nxt (t3,t4))
def dW(k0:Nat)(a0:(List w6))(s0:(List Int)×(List Int))(t3:(List Int)):Option (Ctl (B7) ((List Int)×(List Int)) ((List Int)×(List Int))):=
 C1 (D5 (dX k0 t3) a0.length s0.2) (dY t3)
def dU(a0:(List w6))(k0:Nat)(s0:(List Int)×(List Int)):Option (Ctl (B7) ((List Int)×(List Int)) ((List Int)×(List Int))):=
 chk (0≤(↑k0:Int)) <|
 chk ((↑k0:Int)<(↑s0.1.length:Int)) <|
 cW (s0.1.set k0 (wr .u64 (1*2^(min k0 64)))) fun c62=>
 C1 (D5 (dV k0 a0) (((get a0 k0).parents).length) c62) (dW k0 a0 s0)
def dZ(t0:(List Int)×(List Int)):Option (B7):=
 some (B7.mk t0.1 t0.2)
def cE(a0:(List w6)):Option (B7):=
 chk (a0.length*8≤top∧a0.length≤top) <|
 C1 (D5 (dU a0) a0.length ((List.replicate a0.length (default:Int)),(List.replicate a0.length (default:Int)))) (dZ)
def U8(a0:Int):Option (Int):=
 bif (decide (a0=0))then
  some 64
 else
  chk (0≤(Int.fdiv (wr .u64 ((Z5 .and .u64 a0 (wr .u64 (0-a0)))*285870213051353865)) (2^(min 58 64)))∧(Int.fdiv (wr .u64 ((Z5 .and .u64 a0 (wr .u64 (0-a0)))*285870213051353865)) (2^(min 58 64)))<64) <|
  some (wr .i64 (get Hv ((Int.fdiv (wr .u64 ((Z5 .and .u64 a0 (wr .u64 (0-a0)))*285870213051353865)) (2^(min 58 64))).toNat)))
def bH(a0:B7)(a1:Int)(a2:Int):Option (Int×Bool×Bool):=
 chk (0≤a1∧a1<(↑a0.down.length:Int)) <|
 chk (0≤a2∧a2<(↑a0.down.length:Int)) <|
 bif (decide ((Z5 .and .u64 (get a0.down a1.toNat) (get a0.down a2.toNat))=0))then
  some (0,false,false)
 else
  (U8 (Z5 .and .u64 (get a0.down a1.toNat) (get a0.down a2.toNat))).bind fun v5=>
  chk (0≤v5∧v5<(↑a0.down.length:Int)) <|
  bif (!decide ((get a0.down v5.toNat)=(Z5 .and .u64 (get a0.down a1.toNat) (get a0.down a2.toNat))))then
   some (0,false,true)
  else
   some (v5,true,false)
def cu(v3:B7)(k0:Nat)(k1:Nat)(s1:Unit):Option (Ctl (Ctl (w9) (Unit) (Unit)) (Unit) (Unit)):=
 (bH v3 (↑k1:Int) (↑k0:Int)).bind fun v6=>
 bif v6.2.2 then
  (K9 16 (↑k0:Int)).bind fun v7=>
  some (.ret (.ret v7))
 else
  some (.nxt ())
def cw(t1:Unit):Option (Ctl (w9) (Unit) (Unit)):=
 some (.nxt ())
def cr(v3:B7)(k0:Nat)(s0:Unit):Option (Ctl (w9) (Unit) (Unit)):=
 chk (k0≤9223372036854775807) <|
 C1 (D5 (cu v3 k0) k0 ()) (cw)
def cj(a0:w5)(k2:Nat)(s2:(List (Bs×Int))):Option (Ctl (w9) ((List (Bs×Int))) ((List (Bs×Int)))):=
 (termName ((get a0.B5 k2).name)).bind fun v14=>
 bif (!v14)then
  (K9 10 (↑k2:Int)).bind fun v15=>
  some (.ret v15)
 else
  bif (assoc ((get a0.B5 k2).name) s2).isSome then
   (K9 7 (↑k2:Int)).bind fun v16=>
   some (.ret v16)
  else
   cW (M4 ((get a0.B5 k2).name) (↑k2:Int) s2) fun c17=>
   bif (bif (bif (bif (decide (((get a0.B5 k2).of_)<0))then true else(decide ((↑a0.types.length:Int)≤((get a0.B5 k2).of_))))then true else(decide (((get a0.B5 k2).value)<0)))then true else(decide ((↑a0.types.length:Int)≤((get a0.B5 k2).value))))then
    (K9 3 (↑k2:Int)).bind fun v19=>
    some (.ret v19)
   else
    some (.nxt c17)
def fG(t2:(List (Bs×Int))):Option (w9):=
 some (w9.mk 0 0)
def Z8(a0:w5)(t0:Unit):Option (w9):=
 C1 (D5 (cj a0) a0.B5.length []) (fG)
def cF(a0:w5):Option (w9):=
 bif (bif (bif (decide ((↑a0.types.length:Int)=0))then true else(decide (60<(↑a0.types.length:Int))))then true else(decide (40<(↑a0.B5.length:Int))))then
  (K9 2 (-1)).bind fun v1=>
  some v1
 else
  (dL a0.types).bind fun v2=>
  bif (!decide (v2.code=0))then
   some v2
  else
   (cE a0.types).bind fun v3=>
   chk (a0.types.length≤9223372036854775807) <|
   C1 (D5 (cr v3) a0.types.length ()) (Z8 a0)
def aF(a0:Int)(a1:Int):Option (w9):=
 some (w9.mk a0 a1)
def eY(a0:Int)(a1:Int):Option (w9):=
 some (w9.mk a0 a1)
def jX(a1:y4)(k0:Nat)(a0:w5)(k2:Nat)(s2:Int):Option (Ctl (Ctl (w9) (Unit) (Unit)) (Int) (Int)):=
 bif (bif (bif (bif (decide (((get ((get a1.nodes k0).links) k2).gG)<0))then true else(decide ((↑a0.B5.length:Int)≤((get ((get a1.nodes k0).links) k2).gG))))then true else(decide (((get ((get a1.nodes k0).links) k2).to_)<0)))then true else(decide ((↑a1.nodes.length:Int)≤((get ((get a1.nodes k0).links) k2).to_))))then
  (eY 3 (↑k0:Int)).bind fun v10=>
  some (.ret (.ret v10))
 else
  bif (decide (((get ((get a1.nodes k0).links) k2).gG)≤s2))then
   (eY 13 (↑k0:Int)).bind fun v11=>
   some (.ret (.ret v11))
  else
   some (.nxt ((get ((get a1.nodes k0).links) k2).gG))
def jY(t2:Int):Option (Ctl (w9) (Unit) (Unit)):=
 some (.nxt ())
def jW(a1:y4)(a0:w5)(k0:Nat)(s0:Unit):Option (Ctl (w9) (Unit) (Unit)):=
 bif (bif (decide (((get a1.nodes k0).type)<0))then true else(decide ((↑a0.types.length:Int)≤((get a1.nodes k0).type))))then
  (eY 3 (↑k0:Int)).bind fun v7=>
  some (.ret v7)
 else
  C1 (D5 (jX a1 k0 a0) (((get a1.nodes k0).links).length) (-1)) (jY)
def nS(t0:Unit):Option (w9):=
 some (w9.mk 0 0)
def mU(a0:w5)(a1:y4):Option (w9):=
 bif (bif (decide ((↑a1.nodes.length:Int)=0))then true else(decide (60<(↑a1.nodes.length:Int))))then
  (eY 2 (-2)).bind fun v1=>
  some v1
 else
  C1 (D5 (jW a1 a0) a1.nodes.length ()) (nS)
def aJ(a0:B7)(a1:Int)(a2:Int):Option (Bool):=
 chk (0≤a1∧a1<(↑a0.up.length:Int)) <|
 chk (0≤a2) <|
 some (decide ((Z5 .and .u64 (Int.fdiv (get a0.up a1.toNat) (2^(min a2.toNat 64))) 1)=1))
def bf(a1:Bool)(a0:(List Bool))(k0:Nat)(s0:Unit):Option (Ctl (Int) (Unit) (Unit)):=
 bif (decide (a1=(get a0 k0)))then
  some (.ret (↑k0:Int))
 else
  some (.nxt ())
def dO(t0:Unit):Option (Int):=
 some (-1)
def L4(a0:(List Bool))(a1:Bool):Option (Int):=
 C1 (D5 (bf a1 a0) a0.length ()) (dO)
def ft(a0:y4)(s0:(List Bool)×(List Int)×Nat)(k2:Nat)(s2:(List Bool)×(List Int)×Nat):Option (Ctl (Ctl (Int) ((List Bool)×(List Int)×Nat) ((List Bool))) ((List Bool)×(List Int)×Nat) ((List Bool)×(List Int)×Nat)):=
 chk (0≤(get ((get a0.nodes ((get s0.2.1 ((wr .i64 ((↑s0.2.2:Int)-1)).toNat)).toNat)).links) k2).to_∧(get ((get a0.nodes ((get s0.2.1 ((wr .i64 ((↑s0.2.2:Int)-1)).toNat)).toNat)).links) k2).to_<(↑s2.1.length:Int)) <|
 bif (!(get s2.1 (((get ((get a0.nodes ((get s0.2.1 ((wr .i64 ((↑s0.2.2:Int)-1)).toNat)).toNat)).links) k2).to_).toNat)))then
  cW (s2.1.set (((get ((get a0.nodes ((get s0.2.1 ((wr .i64 ((↑s0.2.2:Int)-1)).toNat)).toNat)).links) k2).to_).toNat) true) fun c79=>
  chk (s2.2.2≤s2.2.1.length) <|
  cW ((s2.2.1.take s2.2.2)++[(get ((get a0.nodes ((get s0.2.1 ((wr .i64 ((↑s0.2.2:Int)-1)).toNat)).toNat)).links) k2).to_]) fun c84=>
  chk (c84.length*8≤top∧c84.length≤top) <|
  some (.nxt (c79,c84,c84.length))
 else
  some (.nxt (s2.1,s2.2.1,s2.2.2))
def fu(t2:(List Bool)×(List Int)×Nat):Option (Ctl (Int) ((List Bool)×(List Int)×Nat) ((List Bool))):=
 some (.nxt (t2.1,t2.2.1,t2.2.2))
def fq(a0:y4)(s0:(List Bool)×(List Int)×Nat):Option (Ctl (Int) ((List Bool)×(List Int)×Nat) ((List Bool))):=
 bif (decide (0<(↑s0.2.2:Int)))then
  chk (s0.2.2≤s0.2.1.length) <|
  chk (0≤(wr .i64 ((↑s0.2.2:Int)-1))∧(wr .i64 ((↑s0.2.2:Int)-1))<(↑s0.2.2:Int)) <|
  chk ((wr .i64 ((↑s0.2.2:Int)-1)).toNat≤s0.2.2) <|
  chk (0≤(get s0.2.1 ((wr .i64 ((↑s0.2.2:Int)-1)).toNat))∧(get s0.2.1 ((wr .i64 ((↑s0.2.2:Int)-1)).toNat))<(↑a0.nodes.length:Int)) <|
  C1 (D5 (ft a0 s0) (((get a0.nodes ((get s0.2.1 ((wr .i64 ((↑s0.2.2:Int)-1)).toNat)).toNat)).links).length) (s0.1,s0.2.1,(wr .i64 ((↑s0.2.2:Int)-1)).toNat)) (fu)
 else
  some (.brk s0.1)
def fz(t0:(List Bool)):Option (Int):=
 (L4 t0 false).bind fun v89=>
 some v89
def dM(n:Nat)(a0:y4):Option (Int):=
 chk (a0.nodes.length*1≤top∧a0.nodes.length≤top) <|
 chk (0<(↑a0.nodes.length:Int)) <|
 cW ((List.replicate a0.nodes.length (default:Bool)).set 0 true) fun c7=>
 C1 (R6 (fq a0) n (c7,[0],1)) (fz)
def iW(a2:y4)(k0:Nat)(a0:w5)(a1:B7)(k2:Nat)(s2:Unit):Option (Ctl (Ctl (w9) (Unit) (Unit)) (Unit) (Unit)):=
 chk (0≤(get ((get a2.nodes k0).links) k2).gG∧(get ((get a2.nodes k0).links) k2).gG<(↑a0.B5.length:Int)) <|
 (aJ a1 ((get a2.nodes k0).type) ((get a0.B5 (((get ((get a2.nodes k0).links) k2).gG).toNat)).of_)).bind fun v28=>
 chk (cV (!(!v28)) (0≤(get ((get a2.nodes k0).links) k2).to_)∧cV (!(!v28)) ((get ((get a2.nodes k0).links) k2).to_<(↑a2.nodes.length:Int))) <|
 (gd (!(!v28)) (aJ a1 ((get a2.nodes (((get ((get a2.nodes k0).links) k2).to_).toNat)).type) ((get a0.B5 (((get ((get a2.nodes k0).links) k2).gG).toNat)).value)) default).bind fun v32=>
 bif (bif (!v28)then true else(!v32))then
  (eY 12 (↑k0:Int)).bind fun v33=>
  some (.ret (.ret v33))
 else
  some (.nxt ())
def iX(t2:Unit):Option (Ctl (w9) (Unit) (Unit)):=
 some (.nxt ())
def iV(a2:y4)(a0:w5)(a1:B7)(k0:Nat)(s0:Unit):Option (Ctl (w9) (Unit) (Unit)):=
 C1 (D5 (iW a2 k0 a0 a1) (((get a2.nodes k0).links).length) ()) (iX)
def iY(n:Nat)(a2:y4)(t0:Unit):Option (w9):=
 (dM n a2).bind fun v34=>
 bif (decide (0≤v34))then
  (eY 5 v34).bind fun v35=>
  some v35
 else
  some (w9.mk 0 0)
def fX(n:Nat)(a0:w5)(a1:B7)(a2:y4):Option (w9):=
 (mU a0 a2).bind fun v1=>
 bif (!decide (v1.code=0))then
  some v1
 else
  C1 (D5 (iV a2 a0 a1) a2.nodes.length ()) (iY n a2)
def nT(a0:Int):Option (Bool):=
 some false
def gV(a0:Int)(a1:Int):Option (Int):=
 (nT a0).bind fun v1=>
 (nT a1).bind fun v2=>
 bif v1 then
  bif v2 then
   some 0
  else
   some (-1)
 else
  bif v2 then
   some 1
  else
   bif (decide (a0<a1))then
    some (-1)
   else
    bif (decide (a1<a0))then
     some 1
    else
     some 0
def gH(a0:D4)(a1:Int):Option (Int):=
 (gV a0.gG a1).bind fun v1=>
 some v1
def G1(a0:(List D4))(a1:Int)(s0:Int×Int):Option (Ctl (Int×Bool) (Int×Int) (Int)):=
 bif (decide (s0.2<s0.1))then
  chk (0≤(wr .i64 (Int.fdiv (wr .u64 (wr .i64 (s0.2+s0.1))) (2^(min 1 64))))∧(wr .i64 (Int.fdiv (wr .u64 (wr .i64 (s0.2+s0.1))) (2^(min 1 64))))<(↑a0.length:Int)) <|
  (gH (get a0 ((wr .i64 (Int.fdiv (wr .u64 (wr .i64 (s0.2+s0.1))) (2^(min 1 64)))).toNat)) a1).bind fun v6=>
  bif (decide (v6<0))then
   some (.nxt (s0.1,(wr .i64 ((wr .i64 (Int.fdiv (wr .u64 (wr .i64 (s0.2+s0.1))) (2^(min 1 64))))+1))))
  else
   some (.nxt ((wr .i64 (Int.fdiv (wr .u64 (wr .i64 (s0.2+s0.1))) (2^(min 1 64)))),s0.2))
 else
  some (.brk s0.2)
def G2(a0:(List D4))(a1:Int)(t0:Int):Option (Int×Bool):=
 chk (cV (decide (t0<(↑a0.length:Int))) (0≤t0)∧cV (decide (t0<(↑a0.length:Int))) (t0<(↑a0.length:Int))) <|
 (gd (decide (t0<(↑a0.length:Int))) (gH (get a0 t0.toNat) a1) default).bind fun v10=>
 some (t0,(bif (decide (t0<(↑a0.length:Int)))then(decide (v10=0))else false))
def F2(n:Nat)(a0:(List D4))(a1:Int):Option (Int×Bool):=
 C1 (R6 (G1 a0 a1) n ((↑a0.length:Int),0)) (G2 a0 a1)
def kL(n:Nat)(a0:y4)(a1:Int)(a2:Int):Option (Int):=
 chk (0≤a1∧a1<(↑a0.nodes.length:Int)) <|
 (F2 n ((get a0.nodes a1.toNat).links) a2).bind fun v3=>
 bif (!v3.2)then
  some (-1)
 else
  chk (0≤v3.1∧v3.1<(↑(((get a0.nodes a1.toNat).links).length):Int)) <|
  some ((get ((get a0.nodes a1.toNat).links) v3.1.toNat).to_)
def Y9(n:Nat)(a0:y4)(a1:Int)(k0:Nat)(s0:Unit):Option (Ctl (Bool) (Unit) (Unit)):=
 (kL n a0 0 (↑k0:Int)).bind fun v1=>
 bif (!decide ((decide (0≤v1))=(decide ((↑k0:Int)≤a1))))then
  some (.ret false)
 else
  some (.nxt ())
def fS(t0:Unit):Option (Bool):=
 some true
def cY(n:Nat)(a0:y4)(a1:Int):Option (Bool):=
 C1 (D5 (Y9 n a0 a1) 4 ()) (fS)
def M5(a0:Int)(iI:Int):Option (w9):=
 some (w9.mk a0 iI)
def ey(self:(u0)→(Int)→(Int)→Option (Int×Int))(a0:u0)(a1:Int)(k0:Nat)(s0:Int):Option (Ctl (Int×Int) (Int) (Int)):=
 (self (get a0.args k0) (wr .i64 (a1+1)) s0).bind fun v2=>
 bif (!decide (v2.1=0))then
  some (.ret (v2.1,v2.2))
 else
  some (.nxt v2.2)
def eA(t0:Int):Option (Int×Int):=
 some (0,t0)
def aN:Nat→(u0)→(Int)→(Int)→Option (Int×Int)
 |0,_,_,_=>none
 |n+1,a0,a1,iI=>
  bif (bif (decide (200<(wr .i64 (iI+1))))then true else(decide (40<a1)))then
   some (1,(wr .i64 (iI+1)))
  else
   bif (!(bif (bif (bif (decide (a0.base=[101]))then true else(decide (a0.base=[116])))then(decide ((↑a0.args.length:Int)=0))else false)then true else(bif (decide (a0.base=[]))then(decide ((↑a0.args.length:Int)=2))else false)))then
    some (5,(wr .i64 (iI+1)))
   else
    C1 (D5 (ey (aN n) a0 a1) a0.args.length (wr .i64 (iI+1))) (eA)
def dN(n:Nat)(a0:u0):Option (w9):=
 (aN n a0 1 0).bind fun v1=>
 some (w9.mk v1.1 0)
def pY(a0:u0):Option (Bool):=
 some (bif (decide (a0.base=[]))then(decide ((↑a0.args.length:Int)=0))else false)
def bM:Nat→(w7)→(Int)→(Int)→(Int)→Option (w9×Int)
 |0,_,_,_,_=>none
 |n+1,a0,a1,a2,iI=>
  bif (bif (decide (200<(wr .i64 (iI+1))))then true else(decide (40<a1)))then
   (M5 1 iI).bind fun v1=>
   some (v1,(wr .i64 (iI+1)))
  else
   bif (decide (a0.kind=1))then
    bif (bif (!decide (a0.index=0))then true else(!decide ((↑a0.args.length:Int)=0)))then
     (M5 5 iI).bind fun v2=>
     some (v2,(wr .i64 (iI+1)))
    else
     (termName a0.name).bind fun v3=>
     bif (!v3)then
      (M5 10 iI).bind fun v4=>
      some (v4,(wr .i64 (iI+1)))
     else
      (dN n a0.type).bind fun v5=>
      bif (!decide (v5.code=0))then
       (M5 12 iI).bind fun v6=>
       some (v6,(wr .i64 (iI+1)))
      else
       some ((w9.mk 0 0),(wr .i64 (iI+1)))
   else
    bif (decide (a0.kind=2))then
     (gd (!(!decide (a0.name=[]))) (pY a0.type) default).bind fun v7=>
     bif (bif (bif (!decide (a0.name=[]))then true else(!v7))then true else(!decide ((↑a0.args.length:Int)=0)))then
      (M5 5 iI).bind fun v8=>
      some (v8,(wr .i64 (iI+1)))
     else
      bif (bif (decide (a0.index<0))then true else(decide (a2≤a0.index)))then
       (M5 15 iI).bind fun v9=>
       some (v9,(wr .i64 (iI+1)))
      else
       some ((w9.mk 0 0),(wr .i64 (iI+1)))
    else
     bif (decide (a0.kind=3))then
      bif (bif (bif (!decide (a0.name=[]))then true else(!decide (a0.index=0)))then true else(!decide ((↑a0.args.length:Int)=1)))then
       (M5 5 iI).bind fun v10=>
       some (v10,(wr .i64 (iI+1)))
      else
       (dN n a0.type).bind fun v11=>
       bif (!decide (v11.code=0))then
        (M5 12 iI).bind fun v12=>
        some (v12,(wr .i64 (iI+1)))
       else
        chk (0<(↑a0.args.length:Int)) <|
        (bM n (get a0.args 0) (wr .i64 (a1+1)) (wr .i64 (a2+1)) (wr .i64 (iI+1))).bind fun v14=>
        some (v14.1,v14.2)
     else
      bif (decide (a0.kind=4))then
       (gd (!(bif (!decide (a0.name=[]))then true else(!decide (a0.index=0)))) (pY a0.type) default).bind fun v15=>
       bif (bif (bif (bif (!decide (a0.name=[]))then true else(!decide (a0.index=0)))then true else(!v15))then true else(!decide ((↑a0.args.length:Int)=2)))then
        (M5 5 iI).bind fun v16=>
        some (v16,(wr .i64 (iI+1)))
       else
        chk (0<(↑a0.args.length:Int)) <|
        (bM n (get a0.args 0) (wr .i64 (a1+1)) a2 (wr .i64 (iI+1))).bind fun v18=>
        bif (!decide (v18.1.code=0))then
         some (v18.1,v18.2)
        else
         chk (1<(↑a0.args.length:Int)) <|
         (bM n (get a0.args 1) (wr .i64 (a1+1)) a2 v18.2).bind fun v20=>
         some (v20.1,v20.2)
      else
       (M5 4 iI).bind fun v21=>
       some (v21,(wr .i64 (iI+1)))
def jZ(self:(u0)→(u0)→Option (Bool))(a1:u0)(a0:u0)(k0:Nat)(s0:Unit):Option (Ctl (Bool) (Unit) (Unit)):=
 chk ((↑k0:Int)<(↑a1.args.length:Int)) <|
 (self (get a0.args k0) (get a1.args k0)).bind fun v3=>
 bif (!v3)then
  some (.ret false)
 else
  some (.nxt ())
def kd(t0:Unit):Option (Bool):=
 some true
def cG:Nat→(u0)→(u0)→Option (Bool)
 |0,_,_=>none
 |n+1,a0,a1=>
  bif (bif (!decide (a0.base=a1.base))then true else(!decide ((↑a0.args.length:Int)=(↑a1.args.length:Int))))then
   some false
  else
   chk (a0.args.length≤9223372036854775807) <|
   C1 (D5 (jZ (cG n) a1 a0) a0.args.length ()) (kd)
def aP:Nat→(w7)→((List u0))→Option (u0×Bool)
 |0,_,_=>none
 |n+1,a0,l0=>
  bif (decide (a0.kind=1))then
   some (a0.type,true)
  else
   bif (decide (a0.kind=2))then
    chk (0≤(wr .i64 ((wr .i64 ((↑l0.length:Int)-1))-a0.index))∧(wr .i64 ((wr .i64 ((↑l0.length:Int)-1))-a0.index))<(↑l0.length:Int)) <|
    some ((get l0 ((wr .i64 ((wr .i64 ((↑l0.length:Int)-1))-a0.index)).toNat)),true)
   else
    bif (decide (a0.kind=3))then
     chk (0≤(↑l0.length:Int)∧0≤(↑l0.length:Int)) <|
     cW (l0++[a0.type]) fun c8=>
     chk (c8.length*40≤top∧c8.length≤top) <|
     chk (0<(↑a0.args.length:Int)) <|
     (aP n (get a0.args 0) c8).bind fun v14=>
     some ((u0.mk [] [a0.type,v14.1]),v14.2)
    else
     chk (0<(↑a0.args.length:Int)) <|
     (aP n (get a0.args 0) l0).bind fun v17=>
     chk (1<(↑a0.args.length:Int)) <|
     (aP n (get a0.args 1) l0).bind fun v19=>
     chk (cV (!(bif (bif (!v17.2)then true else(!v19.2))then true else(!decide ((↑v17.1.args.length:Int)=2)))) (0<(↑v17.1.args.length:Int))) <|
     (gd (!(bif (bif (!v17.2)then true else(!v19.2))then true else(!decide ((↑v17.1.args.length:Int)=2)))) (cG n (get v17.1.args 0) v19.1) default).bind fun v22=>
     bif (bif (bif (bif (!v17.2)then true else(!v19.2))then true else(!decide ((↑v17.1.args.length:Int)=2)))then true else(!v22))then
      some ((u0.mk [] []),false)
     else
      chk (1<(↑v17.1.args.length:Int)) <|
      some ((get v17.1.args 1),true)
def fM:Nat→(w7)→((List u0))→Option (u0×Bool)
 |0,_,_=>none
 |n+1,a0,a1=>
  bif (decide (a0.kind=1))then
   some (a0.type,true)
  else
   bif (decide (a0.kind=2))then
    chk (0≤(wr .i64 ((wr .i64 ((↑a1.length:Int)-1))-a0.index))∧(wr .i64 ((wr .i64 ((↑a1.length:Int)-1))-a0.index))<(↑a1.length:Int)) <|
    some ((get a1 ((wr .i64 ((wr .i64 ((↑a1.length:Int)-1))-a0.index)).toNat)),true)
   else
    bif (decide (a0.kind=3))then
     chk (0≤(↑a1.length:Int)∧0≤(↑a1.length:Int)) <|
     cW (a1++[a0.type]) fun c6=>
     chk (c6.length*40≤top∧c6.length≤top) <|
     chk (0<(↑a0.args.length:Int)) <|
     (aP n (get a0.args 0) c6).bind fun v12=>
     some ((u0.mk [] [a0.type,v12.1]),v12.2)
    else
     chk (0<(↑a0.args.length:Int)) <|
     (fM n (get a0.args 0) a1).bind fun v15=>
     chk (1<(↑a0.args.length:Int)) <|
     (fM n (get a0.args 1) a1).bind fun v17=>
     chk (cV (!(bif (bif (!v15.2)then true else(!v17.2))then true else(!decide ((↑v15.1.args.length:Int)=2)))) (0<(↑v15.1.args.length:Int))) <|
     (gd (!(bif (bif (!v15.2)then true else(!v17.2))then true else(!decide ((↑v15.1.args.length:Int)=2)))) (cG n (get v15.1.args 0) v17.1) default).bind fun v20=>
     bif (bif (bif (bif (!v15.2)then true else(!v17.2))then true else(!decide ((↑v15.1.args.length:Int)=2)))then true else(!v20))then
      some ((u0.mk [] []),false)
     else
      chk (1<(↑v15.1.args.length:Int)) <|
      some ((get v15.1.args 1),true)
def eL(n:Nat)(a0:w7):Option (w9):=
 (bM n a0 1 0 0).bind fun v1=>
 bif (!decide (v1.1.code=0))then
  some v1.1
 else
  (fM n a0 []).bind fun v2=>
  bif (!v2.2)then
   some (w9.mk 12 (-1))
  else
   some (w9.mk 0 0)
def kQ(n:Nat)(a0:w5)(a1:B7)(a2:w4):Option (Int):=
 bif (bif (bif (bif (decide (a2.kids<1))then true else(decide (3<a2.kids)))then true else(decide (a2.weight<0)))then true else(decide (1000000<a2.weight)))then
  some 3
 else
  (fX n a0 a1 a2.graph).bind fun v1=>
  bif (!decide (v1.code=0))then
   some v1.code
  else
   (cY n a2.graph a2.kids).bind fun v2=>
   bif (!v2)then
    some 5
   else
    (eL n a2.meaning).bind fun v3=>
    some v3.code
def P4(a0:Bs)(s0:Nat×Int):Option (Ctl (Int) (Nat×Int) (Int)):=
 bif (decide (s0.1<a0.length))then
  some (.nxt ((s0.1+je a0 s0.1),(wr .i64 (s0.2+1))))
 else
  some (.brk s0.2)
def W9(t0:Int):Option (Int):=
 some t0
def N5(n:Nat)(a0:Bs):Option (Int):=
 C1 (R6 (P4 a0) n (0,0)) (W9)
def F3(a0:Bs):Option (Int):=
 bif false then
  chk (0<(↑a0.length:Int)) <|
  chk (1<(↑a0.length:Int)) <|
  chk (2<(↑a0.length:Int)) <|
  chk (3<(↑a0.length:Int)) <|
  some (Z5 .or .u64 (Z5 .or .u64 (Z5 .or .u64 (wr .u64 (B4 a0 0)) (wr .u64 ((wr .u64 (B4 a0 1))*2^(min 8 64)))) (wr .u64 ((wr .u64 (B4 a0 2))*2^(min 16 64)))) (wr .u64 ((wr .u64 (B4 a0 3))*2^(min 24 64))))
 else
  chk (0<(↑a0.length:Int)) <|
  chk (1<(↑a0.length:Int)) <|
  chk (2<(↑a0.length:Int)) <|
  chk (3<(↑a0.length:Int)) <|
  chk (4<(↑a0.length:Int)) <|
  chk (5<(↑a0.length:Int)) <|
  chk (6<(↑a0.length:Int)) <|
  chk (7<(↑a0.length:Int)) <|
  some (Z5 .or .u64 (Z5 .or .u64 (Z5 .or .u64 (Z5 .or .u64 (Z5 .or .u64 (Z5 .or .u64 (Z5 .or .u64 (wr .u64 (B4 a0 0)) (wr .u64 ((wr .u64 (B4 a0 1))*2^(min 8 64)))) (wr .u64 ((wr .u64 (B4 a0 2))*2^(min 16 64)))) (wr .u64 ((wr .u64 (B4 a0 3))*2^(min 24 64)))) (wr .u64 ((wr .u64 (B4 a0 4))*2^(min 32 64)))) (wr .u64 ((wr .u64 (B4 a0 5))*2^(min 40 64)))) (wr .u64 ((wr .u64 (B4 a0 6))*2^(min 48 64)))) (wr .u64 ((wr .u64 (B4 a0 7))*2^(min 56 64))))
def M6(j3:Bs):Option (Ctl (Bool) (Bs) (Unit)):=
 some (.nxt j3)
def R3(s4:Bs):Option (Ctl (Ctl (Bool) (Bs) (Unit)) (Bs) (Bs)):=
 (gd (decide (32<(↑s4.length:Int))) (F3 s4) default).bind fun v100=>
 chk (cV (decide (32<(↑s4.length:Int))) (8≤s4.length)) <|
 (gd (decide (32<(↑s4.length:Int))) (F3 (s4.drop 8)) default).bind fun v103=>
 chk (cV (decide (32<(↑s4.length:Int))) (16≤s4.length)) <|
 (gd (decide (32<(↑s4.length:Int))) (F3 (s4.drop 16)) default).bind fun v106=>
 chk (cV (decide (32<(↑s4.length:Int))) (0≤24)∧cV (decide (32<(↑s4.length:Int))) (24≤s4.length)) <|
 (gd (decide (32<(↑s4.length:Int))) (F3 (s4.drop 24)) default).bind fun v110=>
 bif (bif (decide (32<(↑s4.length:Int)))then(decide ((Z5 .and .u64 (Z5 .or .u64 (Z5 .or .u64 v100 v103) (Z5 .or .u64 v106 v110)) 9259542123273814144)=0))else false)then
  chk (0≤32∧32≤s4.length) <|
  some (.nxt (s4.drop 32))
 else
  some (.brk s4)
def X0(t4:Bs):Option (Ctl (Bool) (Bs) (Unit)):=
 M6 t4
def R4(n:Nat)(s0:Bs):Option (Ctl (Bool) (Bs) (Unit)):=
 bif (decide (0<(↑s0.length:Int)))then
  chk (0<(↑s0.length:Int)) <|
  bif (decide ((B4 s0 0)<128))then
   chk (0≤1∧1≤s0.length) <|
   (gd (decide (8<(↑((s0.drop 1).length):Int))) (F3 (s0.drop 1)) default).bind fun v78=>
   bif (bif (decide (8<(↑((s0.drop 1).length):Int)))then(decide ((Z5 .and .u64 v78 9259542123273814144)=0))else false)then
    chk (0≤8∧8≤(s0.drop 1).length) <|
    (gd (decide (16<(↑(((s0.drop 1).drop 8).length):Int))) (F3 ((s0.drop 1).drop 8)) default).bind fun v81=>
    chk (cV (decide (16<(↑(((s0.drop 1).drop 8).length):Int))) (8≤((s0.drop 1).drop 8).length)) <|
    (gd (decide (16<(↑(((s0.drop 1).drop 8).length):Int))) (F3 (((s0.drop 1).drop 8).drop 8)) default).bind fun v84=>
    bif (bif (decide (16<(↑(((s0.drop 1).drop 8).length):Int)))then(decide ((Z5 .and .u64 (Z5 .or .u64 v81 v84) 9259542123273814144)=0))else false)then
     chk (0≤16∧16≤((s0.drop 1).drop 8).length) <|
     C1 (R6 (R3) n (((s0.drop 1).drop 8).drop 16)) (X0)
    else
     M6 ((s0.drop 1).drop 8)
   else
    M6 (s0.drop 1)
  else
   chk (0≤(B4 s0 0)∧(B4 s0 0)<256) <|
   chk (0≤(Int.fdiv (get mS ((B4 s0 0).toNat)) (2^(min 4 8)))∧(Int.fdiv (get mS ((B4 s0 0).toNat)) (2^(min 4 8)))<16) <|
   bif (decide ((wr .i64 (Z5 .and .u8 (get mS ((B4 s0 0).toNat)) 7))=2))then
    chk (cV (!(decide ((↑s0.length:Int)<2))) (1<(↑s0.length:Int))) <|
    chk (cV (!(bif (decide ((↑s0.length:Int)<2))then true else(decide ((B4 s0 1)<((get qF ((Int.fdiv (get mS ((B4 s0 0).toNat)) (2^(min 4 8))).toNat)).lo))))) (1<(↑s0.length:Int))) <|
    bif (bif (bif (decide ((↑s0.length:Int)<2))then true else(decide ((B4 s0 1)<((get qF ((Int.fdiv (get mS ((B4 s0 0).toNat)) (2^(min 4 8))).toNat)).lo))))then true else(decide (((get qF ((Int.fdiv (get mS ((B4 s0 0).toNat)) (2^(min 4 8))).toNat)).hi)<(B4 s0 1))))then
     some (.ret false)
    else
     chk (0≤2∧2≤s0.length) <|
     some (.nxt (s0.drop 2))
   else
    bif (decide ((wr .i64 (Z5 .and .u8 (get mS ((B4 s0 0).toNat)) 7))=3))then
     chk (cV (!(decide ((↑s0.length:Int)<3))) (1<(↑s0.length:Int))) <|
     chk (cV (!(bif (decide ((↑s0.length:Int)<3))then true else(decide ((B4 s0 1)<((get qF ((Int.fdiv (get mS ((B4 s0 0).toNat)) (2^(min 4 8))).toNat)).lo))))) (1<(↑s0.length:Int))) <|
     chk (cV (!(bif (bif (decide ((↑s0.length:Int)<3))then true else(decide ((B4 s0 1)<((get qF ((Int.fdiv (get mS ((B4 s0 0).toNat)) (2^(min 4 8))).toNat)).lo))))then true else(decide (((get qF ((Int.fdiv (get mS ((B4 s0 0).toNat)) (2^(min 4 8))).toNat)).hi)<(B4 s0 1))))) (2<(↑s0.length:Int))) <|
     chk (cV (!(bif (bif (bif (decide ((↑s0.length:Int)<3))then true else(decide ((B4 s0 1)<((get qF ((Int.fdiv (get mS ((B4 s0 0).toNat)) (2^(min 4 8))).toNat)).lo))))then true else(decide (((get qF ((Int.fdiv (get mS ((B4 s0 0).toNat)) (2^(min 4 8))).toNat)).hi)<(B4 s0 1))))then true else(decide ((B4 s0 2)<128)))) (2<(↑s0.length:Int))) <|
     bif (bif (bif (bif (bif (decide ((↑s0.length:Int)<3))then true else(decide ((B4 s0 1)<((get qF ((Int.fdiv (get mS ((B4 s0 0).toNat)) (2^(min 4 8))).toNat)).lo))))then true else(decide (((get qF ((Int.fdiv (get mS ((B4 s0 0).toNat)) (2^(min 4 8))).toNat)).hi)<(B4 s0 1))))then true else(decide ((B4 s0 2)<128)))then true else(decide (191<(B4 s0 2))))then
      some (.ret false)
     else
      chk (0≤3∧3≤s0.length) <|
      some (.nxt (s0.drop 3))
    else
     bif (decide ((wr .i64 (Z5 .and .u8 (get mS ((B4 s0 0).toNat)) 7))=4))then
      chk (cV (!(decide ((↑s0.length:Int)<4))) (1<(↑s0.length:Int))) <|
      chk (cV (!(bif (decide ((↑s0.length:Int)<4))then true else(decide ((B4 s0 1)<((get qF ((Int.fdiv (get mS ((B4 s0 0).toNat)) (2^(min 4 8))).toNat)).lo))))) (1<(↑s0.length:Int))) <|
      chk (cV (!(bif (bif (decide ((↑s0.length:Int)<4))then true else(decide ((B4 s0 1)<((get qF ((Int.fdiv (get mS ((B4 s0 0).toNat)) (2^(min 4 8))).toNat)).lo))))then true else(decide (((get qF ((Int.fdiv (get mS ((B4 s0 0).toNat)) (2^(min 4 8))).toNat)).hi)<(B4 s0 1))))) (2<(↑s0.length:Int))) <|
      chk (cV (!(bif (bif (bif (decide ((↑s0.length:Int)<4))then true else(decide ((B4 s0 1)<((get qF ((Int.fdiv (get mS ((B4 s0 0).toNat)) (2^(min 4 8))).toNat)).lo))))then true else(decide (((get qF ((Int.fdiv (get mS ((B4 s0 0).toNat)) (2^(min 4 8))).toNat)).hi)<(B4 s0 1))))then true else(decide ((B4 s0 2)<128)))) (2<(↑s0.length:Int))) <|
      chk (cV (!(bif (bif (bif (bif (decide ((↑s0.length:Int)<4))then true else(decide ((B4 s0 1)<((get qF ((Int.fdiv (get mS ((B4 s0 0).toNat)) (2^(min 4 8))).toNat)).lo))))then true else(decide (((get qF ((Int.fdiv (get mS ((B4 s0 0).toNat)) (2^(min 4 8))).toNat)).hi)<(B4 s0 1))))then true else(decide ((B4 s0 2)<128)))then true else(decide (191<(B4 s0 2))))) (3<(↑s0.length:Int))) <|
      chk (cV (!(bif (bif (bif (bif (bif (decide ((↑s0.length:Int)<4))then true else(decide ((B4 s0 1)<((get qF ((Int.fdiv (get mS ((B4 s0 0).toNat)) (2^(min 4 8))).toNat)).lo))))then true else(decide (((get qF ((Int.fdiv (get mS ((B4 s0 0).toNat)) (2^(min 4 8))).toNat)).hi)<(B4 s0 1))))then true else(decide ((B4 s0 2)<128)))then true else(decide (191<(B4 s0 2))))then true else(decide ((B4 s0 3)<128)))) (3<(↑s0.length:Int))) <|
      bif (bif (bif (bif (bif (bif (bif (decide ((↑s0.length:Int)<4))then true else(decide ((B4 s0 1)<((get qF ((Int.fdiv (get mS ((B4 s0 0).toNat)) (2^(min 4 8))).toNat)).lo))))then true else(decide (((get qF ((Int.fdiv (get mS ((B4 s0 0).toNat)) (2^(min 4 8))).toNat)).hi)<(B4 s0 1))))then true else(decide ((B4 s0 2)<128)))then true else(decide (191<(B4 s0 2))))then true else(decide ((B4 s0 3)<128)))then true else(decide (191<(B4 s0 3))))then
       some (.ret false)
      else
       chk (0≤4∧4≤s0.length) <|
       some (.nxt (s0.drop 4))
     else
      some (.ret false)
 else
  some (.brk ())
def bT(t0:Unit):Option (Bool):=
 some true
def W7(n:Nat)(a0:Bs):Option (Bool):=
 C1 (R6 (R4 n) n a0) (bT)
def dH(a0:Bs)(a1:Int):Option (Int):=
 (indexByte a0 a1).bind fun v1=>
 some v1
def cx(a0:Int):Option (Bool):=
 bif (bif (decide (0≤a0))then(decide (a0<55296))else false)then
  some true
 else
  bif (bif (decide (57343<a0))then(decide (a0≤1114111))else false)then
   some true
  else
   some false
def dc(a0:Bs)(s0:Nat):Option (Ctl (Int) (Nat) (Unit)):=
 bif (decide (s0<a0.length))then
  chk (s0<a0.length) <|
  bif (decide ((rune a0 s0)=65533))then
   some (.ret (↑s0:Int))
  else
   some (.nxt (s0+je a0 s0))
 else
  some (.brk ())
def gg(t0:Unit):Option (Int):=
 some (-1)
def gi(a1:Int)(j2:Int)(a0:Bs)(s3:Int):Option (Ctl (Ctl (Int) (Unit) (Unit)) (Int) (Unit)):=
 bif (decide (s3<(↑((L3 a1).length):Int)))then
  chk (0≤(wr .i64 (j2-s3))∧(wr .i64 (j2-s3))<(↑a0.length:Int)) <|
  chk (0≤(wr .i64 ((wr .i64 ((↑((L3 a1).length):Int)-1))-s3))∧(wr .i64 ((wr .i64 ((↑((L3 a1).length):Int)-1))-s3))<(↑((L3 a1).length):Int)) <|
  bif (!decide ((B4 a0 (wr .i64 (j2-s3)))=(B4 (L3 a1) (wr .i64 ((wr .i64 ((↑((L3 a1).length):Int)-1))-s3)))))then
   none
  else
   some (.nxt (wr .i64 (s3+1)))
 else
  some (.brk ())
def gj(j2:Int)(a1:Int)(t3:Unit):Option (Ctl (Int) (Unit) (Unit)):=
 some (.ret (wr .i64 (j2-(wr .i64 ((↑((L3 a1).length):Int)-1)))))
def dx(n:Nat)(a1:Int)(a0:Bs)(j2:Int):Option (Ctl (Int) (Unit) (Unit)):=
 C1 (R6 (gi a1 j2 a0) n 1) (gj j2 a1)
def aQ(n:Nat)(a1:Int)(a0:Bs)(s1:Unit):Option (Ctl (Int) (Unit) (Unit)):=
 bif (decide ((wr .i64 ((↑((L3 a1).length):Int)-1))<(↑a0.length:Int)))then
  chk (0≤(wr .i64 ((↑((L3 a1).length):Int)-1))∧(wr .i64 ((↑((L3 a1).length):Int)-1))<(↑a0.length:Int)) <|
  chk ((wr .i64 ((↑((L3 a1).length):Int)-1))<(↑((L3 a1).length):Int)) <|
  bif (!decide ((B4 a0 (wr .i64 ((↑((L3 a1).length):Int)-1)))=(B4 (L3 a1) (wr .i64 ((↑((L3 a1).length):Int)-1)))))then
   chk (0≤(wr .i64 ((wr .i64 ((↑((L3 a1).length):Int)-1))+1))∧(wr .i64 ((wr .i64 ((↑((L3 a1).length):Int)-1))+1)).toNat≤a0.length) <|
   (dH (a0.drop ((wr .i64 ((wr .i64 ((↑((L3 a1).length):Int)-1))+1)).toNat)) (B4 (L3 a1) (wr .i64 ((↑((L3 a1).length):Int)-1)))).bind fun v10=>
   bif (decide (v10<0))then
    some (.ret (-1))
   else
    dx n a1 a0 (wr .i64 ((wr .i64 ((↑((L3 a1).length):Int)-1))+(wr .i64 (v10+1))))
  else
   dx n a1 a0 (wr .i64 ((↑((L3 a1).length):Int)-1))
 else
  some (.brk ())
def gn(t1:Unit):Option (Int):=
 some (-1)
def bE(n:Nat)(a0:Bs)(a1:Int):Option (Int):=
 bif (bif (decide (0≤a1))then(decide (a1<128))else false)then
  (dH a0 (wr .u8 a1)).bind fun v1=>
  some v1
 else
  bif (decide (a1=65533))then
   C1 (R6 (dc a0) n 0) (gg)
  else
   (cx a1).bind fun v4=>
   bif (!v4)then
    some (-1)
   else
    C1 (R6 (aQ n a1 a0) n ()) (gn)
def cJ(a0:Int):Option (Bool):=
 some (decide (8<a0))
def dy(n:Nat)(a0:Bs)(j0:Int):Option (Int):=
 (bE n a0 j0).bind fun v2=>
 some v2
def dh(n:Nat)(a0:Bs)(a1:Bs)(s2:Nat):Option (Ctl (Int) (Nat) (Unit)):=
 bif (decide (s2<a0.length))then
  chk (s2<a0.length) <|
  (bE n a1 (rune a0 s2)).bind fun v7=>
  bif (decide (0≤v7))then
   some (.ret (↑s2:Int))
  else
   some (.nxt (s2+je a0 s2))
 else
  some (.brk ())
def gq(t2:Unit):Option (Int):=
 some (-1)
def dg(n:Nat)(a0:Bs)(a1:Bs)(j1:Unit):Option (Int):=
 C1 (R6 (dh n a0 a1) n 0) (gq)
def fT(n:Nat)(a0:Bs)(a1:Bs):Option (Int):=
 bif (decide (a1=[]))then
  some (-1)
 else
  bif (decide ((↑a1.length:Int)=1))then
   chk (0<(↑a1.length:Int)) <|
   bif (decide (128≤(wr .i32 (B4 a1 0))))then
    dy n a0 65533
   else
    dy n a0 (wr .i32 (B4 a1 0))
  else
   (cJ (↑a0.length:Int)).bind fun v3=>
   bif v3 then
    none
   else
    dg n a0 a1 ()
def gY(n:Nat)(a0:Bs)(a1:Bs):Option (Int):=
 bif decide (8<a0.length)then chk (2≤a1.length∧a0.length<4294967281∧a1.length<4294967281∧a1.all (fun b=>decide (b.toNat<128))=true) (some (Lib.indexAny a0 a1))
 else fT n a0 a1
def Y6(n:Nat)(a0:Bs)(a1:Bs):Option (Bool):=
 (gY n a0 a1).bind fun v1=>
 some (decide (0≤v1))
def kP(n:Nat)(a0:Bs):Option (Bool):=
 (N5 n a0).bind fun v1=>
 (gd (bif (decide (1≤v1))then(decide (v1≤30))else false) (W7 n a0) default).bind fun v2=>
 (gd (bif (bif (decide (1≤v1))then(decide (v1≤30))else false)then v2 else false) (Y6 n a0 [32,9,10,40,41,91,93,44,59]) default).bind fun v3=>
 some (bif (bif (bif (decide (1≤v1))then(decide (v1≤30))else false)then v2 else false)then(!v3)else false)
def jl(n:Nat)(a0:w5)(a1:B7)(a2:x7):Option (Int):=
 (kP n a2.word).bind fun v1=>
 bif (!v1)then
  some 10
 else
  bif (bif (decide (a2.weight<0))then true else(decide (1000000<a2.weight)))then
   some 3
  else
   (fX n a0 a1 a2.graph).bind fun v2=>
   bif (!decide (v2.code=0))then
    some v2.code
   else
    (eL n a2.meaning).bind fun v3=>
    some v3.code
def eB(n:Nat)(a0:x6)(v4:B7)(k0:Nat)(s0:(List (Bs×Int))):Option (Ctl (w9) ((List (Bs×Int))) ((List (Bs×Int)))):=
 (termName ((get a0.rules k0).name)).bind fun v12=>
 bif (!v12)then
  (aF 10 (↑k0:Int)).bind fun v13=>
  some (.ret v13)
 else
  bif (assoc ((get a0.rules k0).name) s0).isSome then
   (aF 7 (↑k0:Int)).bind fun v14=>
   some (.ret v14)
  else
   cW (M4 ((get a0.rules k0).name) (↑k0:Int) s0) fun c15=>
   (kQ n a0.hierarchy v4 (get a0.rules k0)).bind fun v17=>
   bif (!decide (v17=0))then
    (aF v17 (↑k0:Int)).bind fun v18=>
    some (.ret v18)
   else
    some (.nxt c15)
def eD(n:Nat)(a0:x6)(v4:B7)(k1:Nat)(s1:Unit):Option (Ctl (w9) (Unit) (Unit)):=
 (jl n a0.hierarchy v4 (get a0.y9 k1)).bind fun v19=>
 bif (!decide (v19=0))then
  (aF v19 (↑k1:Int)).bind fun v20=>
  some (.ret v20)
 else
  some (.nxt ())
def eE(n:Nat)(a0:x6)(v4:B7)(t1:Unit):Option (w9):=
 (fX n a0.hierarchy v4 a0.start).bind fun v21=>
 bif (!decide (v21.code=0))then
  (aF v21.code (-1)).bind fun v22=>
  some v22
 else
  some (w9.mk 0 0)
def eC(n:Nat)(a0:x6)(v4:B7)(t0:(List (Bs×Int))):Option (w9):=
 C1 (D5 (eD n a0 v4) a0.y9.length ()) (eE n a0 v4)
def W1(n:Nat)(a0:x6):Option (w9):=
 (cF a0.hierarchy).bind fun v1=>
 bif (!decide (v1.code=0))then
  some v1
 else
  bif (decide ((↑a0.hierarchy.B5.length:Int)≤3))then
   (aF 9 (-1)).bind fun v2=>
   some v2
  else
   bif (bif (decide (40<(↑a0.rules.length:Int)))then true else(decide (100<(↑a0.y9.length:Int))))then
    (aF 2 (-1)).bind fun v3=>
    some v3
   else
    (cE a0.hierarchy.types).bind fun v4=>
    C1 (D5 (eB n a0 v4) a0.rules.length []) (eC n a0 v4)
def fH(a1:(List Int))(a0:(List Int))(k0:Nat)(s0:Unit):Option (Ctl (Bool) (Unit) (Unit)):=
 chk ((↑k0:Int)<(↑a1.length:Int)) <|
 bif (!decide ((get a0 k0)=(get a1 k0)))then
  some (.ret false)
 else
  some (.nxt ())
def fI(t0:Unit):Option (Bool):=
 some true
def aK(a0:(List Int))(a1:(List Int)):Option (Bool):=
 bif (!decide ((↑a0.length:Int)=(↑a1.length:Int)))then
  some false
 else
  C1 (D5 (fH a1 a0) a0.length ()) (fI)
def hY(a0:w6)(a1:w6):Option (Bool):=
 (gd (decide (a0.name=a1.name)) (aK a0.parents a1.parents) default).bind fun v1=>
 some (bif (decide (a0.name=a1.name))then v1 else false)
def J4(a1:(List w6))(a0:(List w6))(k0:Nat)(s0:Unit):Option (Ctl (Bool) (Unit) (Unit)):=
 chk ((↑k0:Int)<(↑a1.length:Int)) <|
 (hY (get a0 k0) (get a1 k0)).bind fun v2=>
 bif (!v2)then
  some (.ret false)
 else
  some (.nxt ())
def J5(t0:Unit):Option (Bool):=
 some true
def L6(a0:(List w6))(a1:(List w6)):Option (Bool):=
 bif (!decide ((↑a0.length:Int)=(↑a1.length:Int)))then
  some false
 else
  C1 (D5 (J4 a1 a0) a0.length ()) (J5)
def ay(a1:(List y3))(a0:(List y3))(k0:Nat)(s0:Unit):Option (Ctl (Bool) (Unit) (Unit)):=
 chk ((↑k0:Int)<(↑a1.length:Int)) <|
 bif (!(decide ((get a0 k0).name=(get a1 k0).name)&&(decide ((get a0 k0).of_=(get a1 k0).of_)&&(decide ((get a0 k0).value=(get a1 k0).value)))))then
  some (.ret false)
 else
  some (.nxt ())
def aA(t0:Unit):Option (Bool):=
 some true
def M7(a0:(List y3))(a1:(List y3)):Option (Bool):=
 bif (!decide ((↑a0.length:Int)=(↑a1.length:Int)))then
  some false
 else
  C1 (D5 (ay a1 a0) a0.length ()) (aA)
def iQ(a0:w5)(a1:w5):Option (Bool):=
 (L6 a0.types a1.types).bind fun v1=>
 (gd v1 (M7 a0.B5 a1.B5) default).bind fun v2=>
 some (bif v1 then v2 else false)
def bU(a0:(List y3)):Option (List y3):=
 some a0
def iR(a0:(List Int)):Option (List Int):=
 some a0
def eN(a0:w5)(k0:Nat)(s0:(List w6)):Option (Ctl (w5) ((List w6)) ((List w6))):=
 (iR ((get a0.types k0).parents)).bind fun v9=>
 cW (s0++[(w6.mk ((get a0.types k0).name) v9)]) fun c11=>
 chk (c11.length*40≤top∧c11.length≤top) <|
 some (.nxt c11)
def eO(v1:(List y3))(t0:(List w6)):Option (w5):=
 some (w5.mk t0 v1)
def Y7(a0:w5):Option (w5):=
 (bU a0.B5).bind fun v1=>
 C1 (D5 (eN a0) a0.types.length []) (eO v1)
def aB(a1:(List D4))(a0:(List D4))(k0:Nat)(s0:Unit):Option (Ctl (Bool) (Unit) (Unit)):=
 chk ((↑k0:Int)<(↑a1.length:Int)) <|
 bif (!(decide ((get a0 k0).gG=(get a1 k0).gG)&&(decide ((get a0 k0).to_=(get a1 k0).to_))))then
  some (.ret false)
 else
  some (.nxt ())
def aC(t0:Unit):Option (Bool):=
 some true
def M8(a0:(List D4))(a1:(List D4)):Option (Bool):=
 bif (!decide ((↑a0.length:Int)=(↑a1.length:Int)))then
  some false
 else
  C1 (D5 (aB a1 a0) a0.length ()) (aC)
def mG(a0:w8)(a1:w8):Option (Bool):=
 (gd (decide (a0.type=a1.type)) (M8 a0.links a1.links) default).bind fun v1=>
 some (bif (decide (a0.type=a1.type))then v1 else false)
def J6(a1:(List w8))(a0:(List w8))(k0:Nat)(s0:Unit):Option (Ctl (Bool) (Unit) (Unit)):=
 chk ((↑k0:Int)<(↑a1.length:Int)) <|
 (mG (get a0 k0) (get a1 k0)).bind fun v2=>
 bif (!v2)then
  some (.ret false)
 else
  some (.nxt ())
def J7(t0:Unit):Option (Bool):=
 some true
def L7(a0:(List w8))(a1:(List w8)):Option (Bool):=
 bif (!decide ((↑a0.length:Int)=(↑a1.length:Int)))then
  some false
 else
  C1 (D5 (J6 a1 a0) a0.length ()) (J7)
def ig(a0:y4)(a1:y4):Option (Bool):=
 (L7 a0.nodes a1.nodes).bind fun v1=>
 some v1
def bV(a0:(List D4)):Option (List D4):=
 some a0
def iS(a0:y4)(k0:Nat)(s0:(List w8)):Option (Ctl (y4) ((List w8)) ((List w8))):=
 (bV ((get a0.nodes k0).links)).bind fun v8=>
 cW (s0++[(w8.mk ((get a0.nodes k0).type) v8)]) fun c10=>
 chk (c10.length*32≤top∧c10.length≤top) <|
 some (.nxt c10)
def iT(t0:(List w8)):Option (y4):=
 some (y4.mk t0)
def aH(a0:y4):Option (y4):=
 C1 (D5 (iS a0) a0.nodes.length []) (iT)
def F6(W2:(u0)→(u0)→Option (Bool))(a1:(List u0))(a0:(List u0))(k0:Nat)(s0:Unit):Option (Ctl (Bool) (Unit) (Unit)):=
 chk ((↑k0:Int)<(↑a1.length:Int)) <|
 (W2 (get a0 k0) (get a1 k0)).bind fun v2=>
 bif (!v2)then
  some (.ret false)
 else
  some (.nxt ())
def F7(t0:Unit):Option (Bool):=
 some true
def G6(W2:(u0)→(u0)→Option (Bool))(a0:(List u0))(a1:(List u0)):Option (Bool):=
 bif (!decide ((↑a0.length:Int)=(↑a1.length:Int)))then
  some false
 else
  C1 (D5 (F6 W2 a1 a0) a0.length ()) (F7)
def fO:Nat→(u0)→(u0)→Option (Bool)
 |0,_,_=>none
 |n+1,a0,a1=>
  (gd (decide (a0.base=a1.base)) (G6 (fO n) a0.args a1.args) default).bind fun v1=>
  some (bif (decide (a0.base=a1.base))then v1 else false)
def J8(Z0:(w7)→(w7)→Option (Bool))(a1:(List w7))(a0:(List w7))(k0:Nat)(s0:Unit):Option (Ctl (Bool) (Unit) (Unit)):=
 chk ((↑k0:Int)<(↑a1.length:Int)) <|
 (Z0 (get a0 k0) (get a1 k0)).bind fun v2=>
 bif (!v2)then
  some (.ret false)
 else
  some (.nxt ())
def J9(t0:Unit):Option (Bool):=
 some true
def L8(Z0:(w7)→(w7)→Option (Bool))(a0:(List w7))(a1:(List w7)):Option (Bool):=
 bif (!decide ((↑a0.length:Int)=(↑a1.length:Int)))then
  some false
 else
  C1 (D5 (J8 Z0 a1 a0) a0.length ()) (J9)
def gM:Nat→(w7)→(w7)→Option (Bool)
 |0,_,_=>none
 |n+1,a0,a1=>
  (gd (bif (bif (decide (a0.kind=a1.kind))then(decide (a0.name=a1.name))else false)then(decide (a0.index=a1.index))else false) (fO n a0.type a1.type) default).bind fun v1=>
  (gd (bif (bif (bif (decide (a0.kind=a1.kind))then(decide (a0.name=a1.name))else false)then(decide (a0.index=a1.index))else false)then v1 else false) (L8 (gM n) a0.args a1.args) default).bind fun v2=>
  some (bif (bif (bif (bif (decide (a0.kind=a1.kind))then(decide (a0.name=a1.name))else false)then(decide (a0.index=a1.index))else false)then v1 else false)then v2 else false)
def bO(n:Nat)(a0:w4)(a1:w4):Option (Bool):=
 (gd (bif (bif (decide (a0.name=a1.name))then(decide (a0.kids=a1.kids))else false)then(decide (a0.weight=a1.weight))else false) (ig a0.graph a1.graph) default).bind fun v1=>
 (gd (bif (bif (bif (decide (a0.name=a1.name))then(decide (a0.kids=a1.kids))else false)then(decide (a0.weight=a1.weight))else false)then v1 else false) (gM n a0.meaning a1.meaning) default).bind fun v2=>
 some (bif (bif (bif (bif (decide (a0.name=a1.name))then(decide (a0.kids=a1.kids))else false)then(decide (a0.weight=a1.weight))else false)then v1 else false)then v2 else false)
def GR(n:Nat)(a0 a1:List w4):Option (List (List Int)):=
 chk ((a0.length+1)*24≤top∧(a1.length+1)*8≤top) <|
 chk ((a0.all fun x=>a1.all fun y=>(bO n x y).isSome)=true) <|
 some (Lcs.tab (fun x y=>(bO n x y).getD false) a0 a1)
def gu(n:Nat)(a0:(List w4))(a1:(List w4))(s3:Int×Int×Int):Option (Ctl (Ctl ((List x5)) ((List x5)×Int×Int) ((List x5))) (Int×Int×Int) (Int×Int×Int)):=
 chk (cV (bif (decide (s3.2.1<(↑a0.length:Int)))then(decide (s3.2.2<(↑a1.length:Int)))else false) (0≤s3.2.1)∧cV (bif (decide (s3.2.1<(↑a0.length:Int)))then(decide (s3.2.2<(↑a1.length:Int)))else false) (s3.2.1<(↑a0.length:Int))) <|
 chk (cV (bif (decide (s3.2.1<(↑a0.length:Int)))then(decide (s3.2.2<(↑a1.length:Int)))else false) (0≤s3.2.2)∧cV (bif (decide (s3.2.1<(↑a0.length:Int)))then(decide (s3.2.2<(↑a1.length:Int)))else false) (s3.2.2<(↑a1.length:Int))) <|
 (gd (bif (decide (s3.2.1<(↑a0.length:Int)))then(decide (s3.2.2<(↑a1.length:Int)))else false) (bO n (get a0 s3.2.1.toNat) (get a1 s3.2.2.toNat)) default).bind fun v83=>
 bif (bif (bif (decide (s3.2.1<(↑a0.length:Int)))then(decide (s3.2.2<(↑a1.length:Int)))else false)then v83 else false)then
  some (.nxt ((wr .i64 (s3.1+1)),(wr .i64 (s3.2.1+1)),(wr .i64 (s3.2.2+1))))
 else
  some (.brk (s3.1,s3.2.1,s3.2.2))
def gy(n:Nat)(a0:(List w4))(a1:(List w4))(v1:(List (List Int)))(s4:Int×(List w4)×Int×Int):Option (Ctl (Ctl ((List x5)) ((List x5)×Int×Int) ((List x5))) (Int×(List w4)×Int×Int) (Int×(List w4)×Int×Int)):=
 chk (cV ((bif (decide (s4.2.2.1<(↑a0.length:Int)))then true else(decide (s4.2.2.2<(↑a1.length:Int))))&&(bif (decide (s4.2.2.1<(↑a0.length:Int)))then(decide (s4.2.2.2<(↑a1.length:Int)))else false)) (0≤s4.2.2.1)∧cV ((bif (decide (s4.2.2.1<(↑a0.length:Int)))then true else(decide (s4.2.2.2<(↑a1.length:Int))))&&(bif (decide (s4.2.2.1<(↑a0.length:Int)))then(decide (s4.2.2.2<(↑a1.length:Int)))else false)) (s4.2.2.1<(↑a0.length:Int))) <|
 chk (cV ((bif (decide (s4.2.2.1<(↑a0.length:Int)))then true else(decide (s4.2.2.2<(↑a1.length:Int))))&&(bif (decide (s4.2.2.1<(↑a0.length:Int)))then(decide (s4.2.2.2<(↑a1.length:Int)))else false)) (0≤s4.2.2.2)∧cV ((bif (decide (s4.2.2.1<(↑a0.length:Int)))then true else(decide (s4.2.2.2<(↑a1.length:Int))))&&(bif (decide (s4.2.2.1<(↑a0.length:Int)))then(decide (s4.2.2.2<(↑a1.length:Int)))else false)) (s4.2.2.2<(↑a1.length:Int))) <|
 (gd ((bif (decide (s4.2.2.1<(↑a0.length:Int)))then true else(decide (s4.2.2.2<(↑a1.length:Int))))&&(bif (decide (s4.2.2.1<(↑a0.length:Int)))then(decide (s4.2.2.2<(↑a1.length:Int)))else false)) (bO n (get a0 s4.2.2.1.toNat) (get a1 s4.2.2.2.toNat)) default).bind fun v117=>
 bif (bif (bif (decide (s4.2.2.1<(↑a0.length:Int)))then true else(decide (s4.2.2.2<(↑a1.length:Int))))then(!(bif (bif (decide (s4.2.2.1<(↑a0.length:Int)))then(decide (s4.2.2.2<(↑a1.length:Int)))else false)then v117 else false))else false)then
  chk (cV ((!(decide (s4.2.2.2=(↑a1.length:Int))))&&(decide (s4.2.2.1<(↑a0.length:Int)))) (0≤(wr .i64 (s4.2.2.1+1)))∧cV ((!(decide (s4.2.2.2=(↑a1.length:Int))))&&(decide (s4.2.2.1<(↑a0.length:Int)))) ((wr .i64 (s4.2.2.1+1))<(↑v1.length:Int))) <|
  chk (cV ((!(decide (s4.2.2.2=(↑a1.length:Int))))&&(decide (s4.2.2.1<(↑a0.length:Int)))) (0≤s4.2.2.2)∧cV ((!(decide (s4.2.2.2=(↑a1.length:Int))))&&(decide (s4.2.2.1<(↑a0.length:Int)))) (s4.2.2.2<(↑((get v1 ((wr .i64 (s4.2.2.1+1)).toNat)).length):Int))) <|
  chk (cV ((!(decide (s4.2.2.2=(↑a1.length:Int))))&&(decide (s4.2.2.1<(↑a0.length:Int)))) (0≤s4.2.2.1)∧cV ((!(decide (s4.2.2.2=(↑a1.length:Int))))&&(decide (s4.2.2.1<(↑a0.length:Int)))) (s4.2.2.1<(↑v1.length:Int))) <|
  chk (cV ((!(decide (s4.2.2.2=(↑a1.length:Int))))&&(decide (s4.2.2.1<(↑a0.length:Int)))) (0≤(wr .i64 (s4.2.2.2+1)))∧cV ((!(decide (s4.2.2.2=(↑a1.length:Int))))&&(decide (s4.2.2.1<(↑a0.length:Int)))) ((wr .i64 (s4.2.2.2+1))<(↑((get v1 s4.2.2.1.toNat).length):Int))) <|
  bif (bif (decide (s4.2.2.2=(↑a1.length:Int)))then true else(bif (decide (s4.2.2.1<(↑a0.length:Int)))then(decide ((get (get v1 s4.2.2.1.toNat) ((wr .i64 (s4.2.2.2+1)).toNat))≤(get (get v1 ((wr .i64 (s4.2.2.1+1)).toNat)) s4.2.2.2.toNat)))else false))then
   some (.nxt ((wr .i64 (s4.1+1)),s4.2.1,(wr .i64 (s4.2.2.1+1)),s4.2.2.2))
  else
   chk (0≤s4.2.2.2∧s4.2.2.2<(↑a1.length:Int)) <|
   cW (s4.2.1++[(get a1 s4.2.2.2.toNat)]) fun c133=>
   chk (c133.length*152≤top∧c133.length≤top) <|
   some (.nxt (s4.1,c133,s4.2.2.1,(wr .i64 (s4.2.2.2+1))))
 else
  some (.brk (s4.1,s4.2.1,s4.2.2.1,s4.2.2.2))
def gA(s0:(List x5)×Int×Int)(t3:Int×Int×Int)(t4:Int×(List w4)×Int×Int):Option (Ctl ((List x5)) ((List x5)×Int×Int) ((List x5))):=
 chk ((s0.1.length+1)*40≤top∧s0.1.length+1≤top) <|
 some (.nxt ((s0.1++[(x5.mk t3.1 t4.1 t4.2.1)]),t4.2.2.1,t4.2.2.2))
def gB(n:Nat)(a0:(List w4))(a1:(List w4))(v1:(List (List Int)))(s0:(List x5)×Int×Int)(t3:Int×Int×Int):Option (Ctl ((List x5)) ((List x5)×Int×Int) ((List x5))):=
 C1 (R6 (gy n a0 a1 v1) n (0,[],t3.2.1,t3.2.2)) (gA s0 t3)
def gC(n:Nat)(a0:(List w4))(a1:(List w4))(v1:(List (List Int)))(s0:(List x5)×Int×Int):Option (Ctl ((List x5)) ((List x5)×Int×Int) ((List x5))):=
 bif (bif (decide (s0.2.1<(↑a0.length:Int)))then true else(decide (s0.2.2<(↑a1.length:Int))))then
  C1 (R6 (gu n a0 a1) n (0,s0.2.1,s0.2.2)) (gB n a0 a1 v1 s0)
 else
  some (.brk s0.1)
def gD(t0:(List x5)):Option ((List x5)):=
 some t0
def jI(n:Nat)(a0:(List w4))(a1:(List w4)):Option ((List x5)):=
 (GR n a0 a1).bind fun v1=>
 C1 (R6 (gC n a0 a1 v1) n ([],0,0)) (gD)
def ij(self:(u0)→Option (u0))(a0:u0)(k0:Nat)(s0:(List u0)):Option (Ctl (u0) ((List u0)) ((List u0))):=
 (self (get a0.args k0)).bind fun v8=>
 cW (s0++[v8]) fun c10=>
 chk (c10.length*40≤top∧c10.length≤top) <|
 some (.nxt c10)
def iq(a0:u0)(t0:(List u0)):Option (u0):=
 some (u0.mk a0.base t0)
def Y0:Nat→(u0)→Option (u0)
 |0,_=>none
 |n+1,a0=>
  C1 (D5 (ij (Y0 n) a0) a0.args.length []) (iq a0)
def jJ(self:(w7)→Option (w7))(a0:w7)(k0:Nat)(s0:(List w7)):Option (Ctl (w7) ((List w7)) ((List w7))):=
 (self (get a0.args k0)).bind fun v9=>
 cW (s0++[v9]) fun c11=>
 chk (c11.length*96≤top∧c11.length≤top) <|
 some (.nxt c11)
def jK(a0:w7)(v1:u0)(t0:(List w7)):Option (w7):=
 some (w7.mk a0.kind a0.name a0.index v1 t0)
def av:Nat→(w7)→Option (w7)
 |0,_=>none
 |n+1,a0=>
  (Y0 n a0.type).bind fun v1=>
  C1 (D5 (jJ (av n) a0) a0.args.length []) (jK a0 v1)
def dr(n:Nat)(a0:w4):Option (w4):=
 (aH a0.graph).bind fun v1=>
 (av n a0.meaning).bind fun v2=>
 some (w4.mk a0.name v1 a0.kids a0.weight v2)
def dz(n:Nat)(a0:x7)(a1:x7):Option (Bool):=
 (gd (bif (decide (a0.word=a1.word))then(decide (a0.weight=a1.weight))else false) (ig a0.graph a1.graph) default).bind fun v1=>
 (gd (bif (bif (decide (a0.word=a1.word))then(decide (a0.weight=a1.weight))else false)then v1 else false) (gM n a0.meaning a1.meaning) default).bind fun v2=>
 some (bif (bif (bif (decide (a0.word=a1.word))then(decide (a0.weight=a1.weight))else false)then v1 else false)then v2 else false)
def JM(n:Nat)(a0 a1:List x7):Option (List (List Int)):=
 chk ((a0.length+1)*24≤top∧(a1.length+1)*8≤top) <|
 chk ((a0.all fun x=>a1.all fun y=>(dz n x y).isSome)=true) <|
 some (Lcs.tab (fun x y=>(dz n x y).getD false) a0 a1)
def iu(n:Nat)(a0:(List x7))(a1:(List x7))(s3:Int×Int×Int):Option (Ctl (Ctl ((List x9)) ((List x9)×Int×Int) ((List x9))) (Int×Int×Int) (Int×Int×Int)):=
 chk (cV (bif (decide (s3.2.1<(↑a0.length:Int)))then(decide (s3.2.2<(↑a1.length:Int)))else false) (0≤s3.2.1)∧cV (bif (decide (s3.2.1<(↑a0.length:Int)))then(decide (s3.2.2<(↑a1.length:Int)))else false) (s3.2.1<(↑a0.length:Int))) <|
 chk (cV (bif (decide (s3.2.1<(↑a0.length:Int)))then(decide (s3.2.2<(↑a1.length:Int)))else false) (0≤s3.2.2)∧cV (bif (decide (s3.2.1<(↑a0.length:Int)))then(decide (s3.2.2<(↑a1.length:Int)))else false) (s3.2.2<(↑a1.length:Int))) <|
 (gd (bif (decide (s3.2.1<(↑a0.length:Int)))then(decide (s3.2.2<(↑a1.length:Int)))else false) (dz n (get a0 s3.2.1.toNat) (get a1 s3.2.2.toNat)) default).bind fun v83=>
 bif (bif (bif (decide (s3.2.1<(↑a0.length:Int)))then(decide (s3.2.2<(↑a1.length:Int)))else false)then v83 else false)then
  some (.nxt ((wr .i64 (s3.1+1)),(wr .i64 (s3.2.1+1)),(wr .i64 (s3.2.2+1))))
 else
  some (.brk (s3.1,s3.2.1,s3.2.2))
def iw(n:Nat)(a0:(List x7))(a1:(List x7))(v1:(List (List Int)))(s4:Int×(List x7)×Int×Int):Option (Ctl (Ctl ((List x9)) ((List x9)×Int×Int) ((List x9))) (Int×(List x7)×Int×Int) (Int×(List x7)×Int×Int)):=
 chk (cV ((bif (decide (s4.2.2.1<(↑a0.length:Int)))then true else(decide (s4.2.2.2<(↑a1.length:Int))))&&(bif (decide (s4.2.2.1<(↑a0.length:Int)))then(decide (s4.2.2.2<(↑a1.length:Int)))else false)) (0≤s4.2.2.1)∧cV ((bif (decide (s4.2.2.1<(↑a0.length:Int)))then true else(decide (s4.2.2.2<(↑a1.length:Int))))&&(bif (decide (s4.2.2.1<(↑a0.length:Int)))then(decide (s4.2.2.2<(↑a1.length:Int)))else false)) (s4.2.2.1<(↑a0.length:Int))) <|
 chk (cV ((bif (decide (s4.2.2.1<(↑a0.length:Int)))then true else(decide (s4.2.2.2<(↑a1.length:Int))))&&(bif (decide (s4.2.2.1<(↑a0.length:Int)))then(decide (s4.2.2.2<(↑a1.length:Int)))else false)) (0≤s4.2.2.2)∧cV ((bif (decide (s4.2.2.1<(↑a0.length:Int)))then true else(decide (s4.2.2.2<(↑a1.length:Int))))&&(bif (decide (s4.2.2.1<(↑a0.length:Int)))then(decide (s4.2.2.2<(↑a1.length:Int)))else false)) (s4.2.2.2<(↑a1.length:Int))) <|
 (gd ((bif (decide (s4.2.2.1<(↑a0.length:Int)))then true else(decide (s4.2.2.2<(↑a1.length:Int))))&&(bif (decide (s4.2.2.1<(↑a0.length:Int)))then(decide (s4.2.2.2<(↑a1.length:Int)))else false)) (dz n (get a0 s4.2.2.1.toNat) (get a1 s4.2.2.2.toNat)) default).bind fun v117=>
 bif (bif (bif (decide (s4.2.2.1<(↑a0.length:Int)))then true else(decide (s4.2.2.2<(↑a1.length:Int))))then(!(bif (bif (decide (s4.2.2.1<(↑a0.length:Int)))then(decide (s4.2.2.2<(↑a1.length:Int)))else false)then v117 else false))else false)then
  chk (cV ((!(decide (s4.2.2.2=(↑a1.length:Int))))&&(decide (s4.2.2.1<(↑a0.length:Int)))) (0≤(wr .i64 (s4.2.2.1+1)))∧cV ((!(decide (s4.2.2.2=(↑a1.length:Int))))&&(decide (s4.2.2.1<(↑a0.length:Int)))) ((wr .i64 (s4.2.2.1+1))<(↑v1.length:Int))) <|
  chk (cV ((!(decide (s4.2.2.2=(↑a1.length:Int))))&&(decide (s4.2.2.1<(↑a0.length:Int)))) (0≤s4.2.2.2)∧cV ((!(decide (s4.2.2.2=(↑a1.length:Int))))&&(decide (s4.2.2.1<(↑a0.length:Int)))) (s4.2.2.2<(↑((get v1 ((wr .i64 (s4.2.2.1+1)).toNat)).length):Int))) <|
  chk (cV ((!(decide (s4.2.2.2=(↑a1.length:Int))))&&(decide (s4.2.2.1<(↑a0.length:Int)))) (0≤s4.2.2.1)∧cV ((!(decide (s4.2.2.2=(↑a1.length:Int))))&&(decide (s4.2.2.1<(↑a0.length:Int)))) (s4.2.2.1<(↑v1.length:Int))) <|
  chk (cV ((!(decide (s4.2.2.2=(↑a1.length:Int))))&&(decide (s4.2.2.1<(↑a0.length:Int)))) (0≤(wr .i64 (s4.2.2.2+1)))∧cV ((!(decide (s4.2.2.2=(↑a1.length:Int))))&&(decide (s4.2.2.1<(↑a0.length:Int)))) ((wr .i64 (s4.2.2.2+1))<(↑((get v1 s4.2.2.1.toNat).length):Int))) <|
  bif (bif (decide (s4.2.2.2=(↑a1.length:Int)))then true else(bif (decide (s4.2.2.1<(↑a0.length:Int)))then(decide ((get (get v1 s4.2.2.1.toNat) ((wr .i64 (s4.2.2.2+1)).toNat))≤(get (get v1 ((wr .i64 (s4.2.2.1+1)).toNat)) s4.2.2.2.toNat)))else false))then
   some (.nxt ((wr .i64 (s4.1+1)),s4.2.1,(wr .i64 (s4.2.2.1+1)),s4.2.2.2))
  else
   chk (0≤s4.2.2.2∧s4.2.2.2<(↑a1.length:Int)) <|
   cW (s4.2.1++[(get a1 s4.2.2.2.toNat)]) fun c133=>
   chk (c133.length*144≤top∧c133.length≤top) <|
   some (.nxt (s4.1,c133,s4.2.2.1,(wr .i64 (s4.2.2.2+1))))
 else
  some (.brk (s4.1,s4.2.1,s4.2.2.1,s4.2.2.2))
def iy(s0:(List x9)×Int×Int)(t3:Int×Int×Int)(t4:Int×(List x7)×Int×Int):Option (Ctl ((List x9)) ((List x9)×Int×Int) ((List x9))):=
 chk ((s0.1.length+1)*40≤top∧s0.1.length+1≤top) <|
 some (.nxt ((s0.1++[(x9.mk t3.1 t4.1 t4.2.1)]),t4.2.2.1,t4.2.2.2))
def iz(n:Nat)(a0:(List x7))(a1:(List x7))(v1:(List (List Int)))(s0:(List x9)×Int×Int)(t3:Int×Int×Int):Option (Ctl ((List x9)) ((List x9)×Int×Int) ((List x9))):=
 C1 (R6 (iw n a0 a1 v1) n (0,[],t3.2.1,t3.2.2)) (iy s0 t3)
def iA(n:Nat)(a0:(List x7))(a1:(List x7))(v1:(List (List Int)))(s0:(List x9)×Int×Int):Option (Ctl ((List x9)) ((List x9)×Int×Int) ((List x9))):=
 bif (bif (decide (s0.2.1<(↑a0.length:Int)))then true else(decide (s0.2.2<(↑a1.length:Int))))then
  C1 (R6 (iu n a0 a1) n (0,s0.2.1,s0.2.2)) (iz n a0 a1 v1 s0)
 else
  some (.brk s0.1)
def iB(t0:(List x9)):Option ((List x9)):=
 some t0
def kS(n:Nat)(a0:(List x7))(a1:(List x7)):Option ((List x9)):=
 (JM n a0 a1).bind fun v1=>
 C1 (R6 (iA n a0 a1 v1) n ([],0,0)) (iB)
def eM(n:Nat)(a0:x7):Option (x7):=
 (aH a0.graph).bind fun v1=>
 (av n a0.meaning).bind fun v2=>
 some (x7.mk a0.word v1 a0.weight v2)
def kT(n:Nat)(a0:x6)(a1:x6)(k0:Nat)(s0:Unit):Option (Ctl (y8×w9) (Unit) (Unit)):=
 (W1 n (get [a0,a1] k0)).bind fun v4=>
 bif (!decide (v4.code=0))then
  some (.ret ((y8.mk [] [] [] []),v4))
 else
  some (.nxt ())
def kU(n:Nat)(v11:(List x5))(k3:Nat)(k5:Nat)(s5:(List w4)):Option (Ctl (Ctl (y8×w9) ((List y7)) ((List y7))) ((List w4)) ((List w4))):=
 (dr n (get ((get v11 k3).put) k5)).bind fun v35=>
 cW (s5++[v35]) fun c37=>
 chk (c37.length*152≤top∧c37.length≤top) <|
 some (.nxt c37)
def kV(s3:(List y7))(v11:(List x5))(k3:Nat)(t5:(List w4)):Option (Ctl (y8×w9) ((List y7)) ((List y7))):=
 chk ((s3.length+1)*40≤top∧s3.length+1≤top) <|
 some (.nxt (s3++[(y7.mk ((get v11 k3).keep) ((get v11 k3).drop) t5)]))
def kW(n:Nat)(v11:(List x5))(k3:Nat)(s3:(List y7)):Option (Ctl (y8×w9) ((List y7)) ((List y7))):=
 C1 (D5 (kU n v11 k3) (((get v11 k3).put).length) []) (kV s3 v11 k3)
def kX(n:Nat)(v45:(List x9))(k6:Nat)(k8:Nat)(s8:(List x7)):Option (Ctl (Ctl (y8×w9) ((List A9)) ((List A9))) ((List x7)) ((List x7))):=
 (eM n (get ((get v45 k6).put) k8)).bind fun v69=>
 cW (s8++[v69]) fun c71=>
 chk (c71.length*144≤top∧c71.length≤top) <|
 some (.nxt c71)
def kY(s6:(List A9))(v45:(List x9))(k6:Nat)(t8:(List x7)):Option (Ctl (y8×w9) ((List A9)) ((List A9))):=
 chk ((s6.length+1)*40≤top∧s6.length+1≤top) <|
 some (.nxt (s6++[(A9.mk ((get v45 k6).keep) ((get v45 k6).drop) t8)]))
def kZ(n:Nat)(v45:(List x9))(k6:Nat)(s6:(List A9)):Option (Ctl (y8×w9) ((List A9)) ((List A9))):=
 C1 (D5 (kX n v45 k6) (((get v45 k6).put).length) []) (kY s6 v45 k6)
def ld(j1:(List w5))(j2:(List y4))(t3:(List y7))(t6:(List A9)):Option (y8×w9):=
 some ((y8.mk j1 j2 t3 t6),(w9.mk 0 0))
def lf(n:Nat)(a0:x6)(a1:x6)(j1:(List w5))(j2:(List y4))(t3:(List y7)):Option (y8×w9):=
 (kS n a0.y9 a1.y9).bind fun v45=>
 C1 (D5 (kZ n v45) v45.length []) (ld j1 j2 t3)
def iC(n:Nat)(a0:x6)(a1:x6)(j1:(List w5))(j2:(List y4)):Option (y8×w9):=
 (jI n a0.rules a1.rules).bind fun v11=>
 C1 (D5 (kW n v11) v11.length []) (lf n a0 a1 j1 j2)
def iD(n:Nat)(a0:x6)(a1:x6)(j1:(List w5)):Option (y8×w9):=
 (ig a0.start a1.start).bind fun v8=>
 bif (!v8)then
  (aH a1.start).bind fun v9=>
  iC n a0 a1 j1 [v9]
 else
  iC n a0 a1 j1 []
def lq(n:Nat)(a0:x6)(a1:x6)(t0:Unit):Option (y8×w9):=
 (iQ a0.hierarchy a1.hierarchy).bind fun v5=>
 bif (!v5)then
  (Y7 a1.hierarchy).bind fun v6=>
  iD n a0 a1 [v6]
 else
  iD n a0 a1 []
def oV(n:Nat)(a0:x6)(a1:x6):Option (y8×w9):=
 C1 (D5 (kT n a0 a1) 2 ()) (lq n a0 a1)
def hJ(a0:Int)(a1:Int):Option (w9):=
 some (w9.mk a0 a1)
def gJ(a0:Int)(a1:Int)(a2:Int):Option (Bool):=
 some (bif (bif (bif (bif (decide (a0<0))then true else(decide (a1<0)))then true else(decide (100<a0)))then true else(decide (100<a1)))then true else(decide (100<a2)))
def gK(a0:y8)(k0:Nat)(s0:Unit):Option (Ctl (w9) (Unit) (Unit)):=
 (gJ ((get a0.rules k0).keep) ((get a0.rules k0).drop) (↑(((get a0.rules k0).put).length):Int)).bind fun v2=>
 bif v2 then
  (hJ 3 (↑k0:Int)).bind fun v3=>
  some (.ret v3)
 else
  some (.nxt ())
def jo(a0:y8)(k1:Nat)(s1:Unit):Option (Ctl (w9) (Unit) (Unit)):=
 (gJ ((get a0.y9 k1).keep) ((get a0.y9 k1).drop) (↑(((get a0.y9 k1).put).length):Int)).bind fun v4=>
 bif v4 then
  (hJ 3 (wr .i64 ((↑a0.rules.length:Int)+(↑k1:Int)))).bind fun v5=>
  some (.ret v5)
 else
  some (.nxt ())
def oW(t1:Unit):Option (w9):=
 some (w9.mk 0 0)
def gL(a0:y8)(t0:Unit):Option (w9):=
 C1 (D5 (jo a0) a0.y9.length ()) (oW)
def gZ(a0:y8):Option (w9):=
 bif (bif (bif (bif (decide (1<(↑a0.hierarchy.length:Int)))then true else(decide (1<(↑a0.start.length:Int))))then true else(decide (300<(↑a0.rules.length:Int))))then true else(decide (300<(↑a0.y9.length:Int))))then
  (hJ 2 (-2)).bind fun v1=>
  some v1
 else
  C1 (D5 (gK a0) a0.rules.length ()) (gL a0)
def nO(a0:y8)(k0:Nat)(s0:Int):Option (Ctl (Int×w9) (Int) (Int)):=
 some (.nxt (wr .i64 (s0+(wr .i64 (((get a0.rules k0).drop)+(↑(((get a0.rules k0).put).length):Int))))))
def nQ(a0:y8)(k1:Nat)(s1:Int):Option (Ctl (Int×w9) (Int) (Int)):=
 some (.nxt (wr .i64 (s1+(wr .i64 (((get a0.y9 k1).drop)+(↑(((get a0.y9 k1).put).length):Int))))))
def qJ(t1:Int):Option (Int×w9):=
 some (t1,(w9.mk 0 0))
def nP(a0:y8)(t0:Int):Option (Int×w9):=
 C1 (D5 (nQ a0) a0.y9.length t0) (qJ)
def nN(a0:y8):Option (Int×w9):=
 (gZ a0).bind fun v1=>
 bif (!decide (v1.code=0))then
  some (0,v1)
 else
  C1 (D5 (nO a0) a0.rules.length (wr .i64 ((↑a0.hierarchy.length:Int)+(↑a0.start.length:Int)))) (nP a0)
def cA(a0:(List w4))(l0:(List x5))(k0:Nat)(s0:(List w4)×Int):Option (Ctl ((List w4)×Bool) ((List w4)×Int) ((List w4)×Int)):=
 bif (decide ((wr .i64 ((↑a0.length:Int)-s0.2))<(wr .i64 (((get l0 k0).keep)+((get l0 k0).drop)))))then
  some (.ret ([],false))
 else
  chk (0≤s0.2∧0≤(wr .i64 (s0.2+((get l0 k0).keep)))∧s0.2.toNat≤(wr .i64 (s0.2+((get l0 k0).keep))).toNat∧(wr .i64 (s0.2+((get l0 k0).keep))).toNat≤a0.length) <|
  cW (s0.1++((a0.drop s0.2.toNat).take ((wr .i64 (s0.2+((get l0 k0).keep))).toNat-s0.2.toNat))) fun c24=>
  chk (c24.length*152≤top∧c24.length≤top) <|
  cW (c24++(get l0 k0).put) fun c29=>
  chk (c29.length*152≤top∧c29.length≤top) <|
  some (.nxt (c29,(wr .i64 (s0.2+(wr .i64 (((get l0 k0).keep)+((get l0 k0).drop)))))))
def cB(a0:(List w4))(t0:(List w4)×Int):Option ((List w4)×Bool):=
 some (t0.1,(decide (t0.2=(↑a0.length:Int))))
def cH(a0:(List w4))(l0:(List x5)):Option ((List w4)×Bool):=
 chk (l0.length≤9223372036854775807) <|
 C1 (D5 (cA a0 l0) l0.length ([],0)) (cB a0)
def dj(a0:(List x7))(l0:(List x9))(k0:Nat)(s0:(List x7)×Int):Option (Ctl ((List x7)×Bool) ((List x7)×Int) ((List x7)×Int)):=
 bif (decide ((wr .i64 ((↑a0.length:Int)-s0.2))<(wr .i64 (((get l0 k0).keep)+((get l0 k0).drop)))))then
  some (.ret ([],false))
 else
  chk (0≤s0.2∧0≤(wr .i64 (s0.2+((get l0 k0).keep)))∧s0.2.toNat≤(wr .i64 (s0.2+((get l0 k0).keep))).toNat∧(wr .i64 (s0.2+((get l0 k0).keep))).toNat≤a0.length) <|
  cW (s0.1++((a0.drop s0.2.toNat).take ((wr .i64 (s0.2+((get l0 k0).keep))).toNat-s0.2.toNat))) fun c24=>
  chk (c24.length*144≤top∧c24.length≤top) <|
  cW (c24++(get l0 k0).put) fun c29=>
  chk (c29.length*144≤top∧c29.length≤top) <|
  some (.nxt (c29,(wr .i64 (s0.2+(wr .i64 (((get l0 k0).keep)+((get l0 k0).drop)))))))
def dn(a0:(List x7))(t0:(List x7)×Int):Option ((List x7)×Bool):=
 some (t0.1,(decide (t0.2=(↑a0.length:Int))))
def dI(a0:(List x7))(l0:(List x9)):Option ((List x7)×Bool):=
 chk (l0.length≤9223372036854775807) <|
 C1 (D5 (dj a0 l0) l0.length ([],0)) (dn a0)
def oX(n:Nat)(a0:x6)(k0:Nat)(s0:(List w4)):Option (Ctl (x6) ((List w4)) ((List w4))):=
 (dr n (get a0.rules k0)).bind fun v10=>
 cW (s0++[v10]) fun c12=>
 chk (c12.length*152≤top∧c12.length≤top) <|
 some (.nxt c12)
def oY(n:Nat)(a0:x6)(k1:Nat)(s1:(List x7)):Option (Ctl (x6) ((List x7)) ((List x7))):=
 (eM n (get a0.y9 k1)).bind fun v24=>
 cW (s1++[v24]) fun c26=>
 chk (c26.length*144≤top∧c26.length≤top) <|
 some (.nxt c26)
def oZ(v1:w5)(t0:(List w4))(v2:y4)(t1:(List x7)):Option (x6):=
 some (x6.mk v1 t0 t1 v2)
def lY(n:Nat)(a0:x6)(v1:w5)(v2:y4)(t0:(List w4)):Option (x6):=
 C1 (D5 (oY n a0) a0.y9.length []) (oZ v1 t0 v2)
def oT(n:Nat)(a0:x6):Option (x6):=
 (Y7 a0.hierarchy).bind fun v1=>
 (aH a0.start).bind fun v2=>
 C1 (D5 (oX n a0) a0.rules.length []) (lY n a0 v1 v2)
def pe(a1:y8)(k0:Nat)(s0:(List x5)):Option (Ctl (x6×w9) ((List x5)) ((List x5))):=
 cW (s0++[(x5.mk ((get a1.rules k0).keep) ((get a1.rules k0).drop) ((get a1.rules k0).put))]) fun c10=>
 chk (c10.length*40≤top∧c10.length≤top) <|
 some (.nxt c10)
def pq(a1:y8)(k1:Nat)(s1:(List x9)):Option (Ctl (x6×w9) ((List x9)) ((List x9))):=
 cW (s1++[(x9.mk ((get a1.y9 k1).keep) ((get a1.y9 k1).drop) ((get a1.y9 k1).put))]) fun c22=>
 chk (c22.length*40≤top∧c22.length≤top) <|
 some (.nxt c22)
def pz(a1:y8)(k2:Nat)(s2:(List w6)×(List y3)):Option (Ctl (x6×w9) ((List w6)×(List y3)) ((List w6)×(List y3))):=
 some (.nxt ((get a1.hierarchy k2).types,(get a1.hierarchy k2).B5))
def pA(a1:y8)(k3:Nat)(s3:(List w8)):Option (Ctl (x6×w9) ((List w8)) ((List w8))):=
 some (.nxt ((get a1.start k3).nodes))
def mh(n:Nat)(a0:x6)(t0:(List x5))(t1:(List x9))(t2:(List w6)×(List y3))(t3:(List w8)):Option (x6×w9):=
 (cH a0.rules t0).bind fun v27=>
 (dI a0.y9 t1).bind fun v28=>
 bif (bif (!v27.2)then true else(!v28.2))then
  (hJ 9 (-2)).bind fun v29=>
  some ((x6.mk (w5.mk [] []) [] [] (y4.mk [])),v29)
 else
  (W1 n (x6.mk (w5.mk t2.1 t2.2) v27.1 v28.1 (y4.mk t3))).bind fun v30=>
  bif (!decide (v30.code=0))then
   (hJ v30.code (-3)).bind fun v31=>
   some ((x6.mk (w5.mk [] []) [] [] (y4.mk [])),v31)
  else
   (oT n (x6.mk (w5.mk t2.1 t2.2) v27.1 v28.1 (y4.mk t3))).bind fun v32=>
   some (v32,(w9.mk 0 0))
def mg(n:Nat)(a1:y8)(a0:x6)(t0:(List x5))(t1:(List x9))(t2:(List w6)×(List y3)):Option (x6×w9):=
 C1 (D5 (pA a1) a1.start.length a0.start.nodes) (mh n a0 t0 t1 t2)
def me(n:Nat)(a1:y8)(a0:x6)(t0:(List x5))(t1:(List x9)):Option (x6×w9):=
 C1 (D5 (pz a1) a1.hierarchy.length (a0.hierarchy.types,a0.hierarchy.B5)) (mg n a1 a0 t0 t1)
def lZ(n:Nat)(a1:y8)(a0:x6)(t0:(List x5)):Option (x6×w9):=
 C1 (D5 (pq a1) a1.y9.length []) (me n a1 a0 t0)
def jq(n:Nat)(a0:x6)(a1:y8):Option (x6×w9):=
 (W1 n a0).bind fun v1=>
 bif (!decide (v1.code=0))then
  some ((x6.mk (w5.mk [] []) [] [] (y4.mk [])),v1)
 else
  (gZ a1).bind fun v2=>
  bif (!decide (v2.code=0))then
   some ((x6.mk (w5.mk [] []) [] [] (y4.mk [])),v2)
  else
   C1 (D5 (pe a1) a1.rules.length []) (lZ n a1 a0)
def S9(a1:(List w6))(a0:(List w6))(k0:Nat)(s0:Unit):Option (Ctl (Bool) (Unit) (Unit)):=
 chk ((↑k0:Int)<(↑a1.length:Int)) <|
 (gd (!(!decide (((get a0 k0).name)=((get a1 k0).name)))) (aK ((get a0 k0).parents) ((get a1 k0).parents)) default).bind fun v4=>
 bif (bif (!decide (((get a0 k0).name)=((get a1 k0).name)))then true else(!v4))then
  some (.ret false)
 else
  some (.nxt ())
def cK(t0:Unit):Option (Bool):=
 some true
def X7(a0:(List w6))(a1:(List w6)):Option (Bool):=
 bif (!decide ((↑a0.length:Int)=(↑a1.length:Int)))then
  some false
 else
  C1 (D5 (S9 a1 a0) a0.length ()) (cK)
def P2(a0:w5)(a1:w5):Option (Bool):=
 (X7 a0.types a1.types).bind fun v1=>
 (gd v1 (M7 a0.B5 a1.B5) default).bind fun v2=>
 some (bif v1 then v2 else false)
def T2(a1:y4)(a0:y4)(k0:Nat)(s0:Unit):Option (Ctl (Bool) (Unit) (Unit)):=
 chk ((↑k0:Int)<(↑a1.nodes.length:Int)) <|
 (gd (!(!decide (((get a0.nodes k0).type)=((get a1.nodes k0).type)))) (M8 ((get a0.nodes k0).links) ((get a1.nodes k0).links)) default).bind fun v5=>
 bif (bif (!decide (((get a0.nodes k0).type)=((get a1.nodes k0).type)))then true else(!v5))then
  some (.ret false)
 else
  some (.nxt ())
def cL(t0:Unit):Option (Bool):=
 some true
def L2(a0:y4)(a1:y4):Option (Bool):=
 bif (!decide ((↑a0.nodes.length:Int)=(↑a1.nodes.length:Int)))then
  some false
 else
  chk (a0.nodes.length≤9223372036854775807) <|
  C1 (D5 (T2 a1 a0) a0.nodes.length ()) (cL)
def M0(self:(u0)→(u0)→Option (Bool))(a1:u0)(a0:u0)(k0:Nat)(s0:Unit):Option (Ctl (Bool) (Unit) (Unit)):=
 chk ((↑k0:Int)<(↑a1.args.length:Int)) <|
 (self (get a0.args k0) (get a1.args k0)).bind fun v3=>
 bif (!v3)then
  some (.ret false)
 else
  some (.nxt ())
def Z1(t0:Unit):Option (Bool):=
 some true
def F4:Nat→(u0)→(u0)→Option (Bool)
 |0,_,_=>none
 |n+1,a0,a1=>
  bif (bif (!decide (a0.base=a1.base))then true else(!decide ((↑a0.args.length:Int)=(↑a1.args.length:Int))))then
   some false
  else
   chk (a0.args.length≤9223372036854775807) <|
   C1 (D5 (M0 (F4 n) a1 a0) a0.args.length ()) (Z1)
def P3(self:(w7)→(w7)→Option (Bool))(a1:w7)(a0:w7)(k0:Nat)(s0:Unit):Option (Ctl (Bool) (Unit) (Unit)):=
 chk ((↑k0:Int)<(↑a1.args.length:Int)) <|
 (self (get a0.args k0) (get a1.args k0)).bind fun v4=>
 bif (!v4)then
  some (.ret false)
 else
  some (.nxt ())
def aU(t0:Unit):Option (Bool):=
 some true
def E7:Nat→(w7)→(w7)→Option (Bool)
 |0,_,_=>none
 |n+1,a0,a1=>
  (gd (!(bif (bif (!decide (a0.kind=a1.kind))then true else(!decide (a0.name=a1.name)))then true else(!decide (a0.index=a1.index)))) (F4 n a0.type a1.type) default).bind fun v1=>
  bif (bif (bif (bif (bif (!decide (a0.kind=a1.kind))then true else(!decide (a0.name=a1.name)))then true else(!decide (a0.index=a1.index)))then true else(!v1))then true else(!decide ((↑a0.args.length:Int)=(↑a1.args.length:Int))))then
   some false
  else
   chk (a0.args.length≤9223372036854775807) <|
   C1 (D5 (P3 (E7 n) a1 a0) a0.args.length ()) (aU)
def T3(n:Nat)(a1:(List w4))(a0:(List w4))(k0:Nat)(s0:Unit):Option (Ctl (Bool) (Unit) (Unit)):=
 chk ((↑k0:Int)<(↑a1.length:Int)) <|
 (gd (!(bif (bif (!decide (((get a0 k0).name)=((get a1 k0).name)))then true else(!decide (((get a0 k0).kids)=((get a1 k0).kids))))then true else(!decide (((get a0 k0).weight)=((get a1 k0).weight))))) (L2 ((get a0 k0).graph) ((get a1 k0).graph)) default).bind fun v5=>
 (gd (!(bif (bif (bif (!decide (((get a0 k0).name)=((get a1 k0).name)))then true else(!decide (((get a0 k0).kids)=((get a1 k0).kids))))then true else(!decide (((get a0 k0).weight)=((get a1 k0).weight))))then true else(!v5))) (E7 n ((get a0 k0).meaning) ((get a1 k0).meaning)) default).bind fun v6=>
 bif (bif (bif (bif (bif (!decide (((get a0 k0).name)=((get a1 k0).name)))then true else(!decide (((get a0 k0).kids)=((get a1 k0).kids))))then true else(!decide (((get a0 k0).weight)=((get a1 k0).weight))))then true else(!v5))then true else(!v6))then
  some (.ret false)
 else
  some (.nxt ())
def cM(t0:Unit):Option (Bool):=
 some true
def X8(n:Nat)(a0:(List w4))(a1:(List w4)):Option (Bool):=
 bif (!decide ((↑a0.length:Int)=(↑a1.length:Int)))then
  some false
 else
  C1 (D5 (T3 n a1 a0) a0.length ()) (cM)
def aS(n:Nat)(a0:x7)(a1:x7):Option (Bool):=
 (gd (bif (decide (a0.word=a1.word))then(decide (a0.weight=a1.weight))else false) (L2 a0.graph a1.graph) default).bind fun v1=>
 (gd (bif (bif (decide (a0.word=a1.word))then(decide (a0.weight=a1.weight))else false)then v1 else false) (E7 n a0.meaning a1.meaning) default).bind fun v2=>
 some (bif (bif (bif (decide (a0.word=a1.word))then(decide (a0.weight=a1.weight))else false)then v1 else false)then v2 else false)
def T4(n:Nat)(a1:(List x7))(a0:(List x7))(k0:Nat)(s0:Unit):Option (Ctl (Bool) (Unit) (Unit)):=
 chk ((↑k0:Int)<(↑a1.length:Int)) <|
 (aS n (get a0 k0) (get a1 k0)).bind fun v2=>
 bif (!v2)then
  some (.ret false)
 else
  some (.nxt ())
def cN(t0:Unit):Option (Bool):=
 some true
def X9(n:Nat)(a0:(List x7))(a1:(List x7)):Option (Bool):=
 bif (!decide ((↑a0.length:Int)=(↑a1.length:Int)))then
  some false
 else
  C1 (D5 (T4 n a1 a0) a0.length ()) (cN)
def O1(n:Nat)(a0:x6)(a1:x6):Option (Bool):=
 (P2 a0.hierarchy a1.hierarchy).bind fun v1=>
 (gd v1 (X8 n a0.rules a1.rules) default).bind fun v2=>
 (gd (bif v1 then v2 else false) (X9 n a0.y9 a1.y9) default).bind fun v3=>
 (gd (bif (bif v1 then v2 else false)then v3 else false) (L2 a0.start a1.start) default).bind fun v4=>
 some (bif (bif (bif v1 then v2 else false)then v3 else false)then v4 else false)
def T5(n:Nat):Option (Bool):=
 (bN n).bind fun v1=>
 (bN n).bind fun v2=>
 chk (0≤1∧1≤v2.y9.length) <|
 (oV n v1 (x6.mk v2.hierarchy v2.rules (v2.y9.drop 1) v2.start)).bind fun v5=>
 (nN v5.1).bind fun v6=>
 (jq n v1 v5.1).bind fun v7=>
 (gd (bif (bif (bif (decide (v5.2.code=0))then(decide (v6.2.code=0))else false)then(decide (v6.1=1))else false)then(decide (v7.2.code=0))else false) (O1 n v7.1 (x6.mk v2.hierarchy v2.rules (v2.y9.drop 1) v2.start)) default).bind fun v8=>
 some (bif (bif (bif (bif (decide (v5.2.code=0))then(decide (v6.2.code=0))else false)then(decide (v6.1=1))else false)then(decide (v7.2.code=0))else false)then v8 else false)
def G7(s0:Int)(j2:Int×Int×Int):Option (Ctl (w9) (Int) (Unit)):=
 bif (bif (bif (bif (bif (decide (j2.1<0))then true else(decide (100<j2.1)))then true else(decide (j2.2.1<0)))then true else(decide (100<j2.2.1)))then true else(decide (100<j2.2.2)))then
  some (.ret (w9.mk 3 s0))
 else
  some (.nxt (wr .i64 (s0+1)))
def L1(a0:y8)(s0:Int):Option (Ctl (w9) (Int) (Unit)):=
 bif (decide (s0<(wr .i64 ((↑a0.rules.length:Int)+(↑a0.y9.length:Int)))))then
  bif (decide (s0<(↑a0.rules.length:Int)))then
   chk (0≤s0∧s0<(↑a0.rules.length:Int)) <|
   G7 s0 ((get a0.rules s0.toNat).keep,(get a0.rules s0.toNat).drop,(↑(((get a0.rules s0.toNat).put).length):Int))
  else
   chk (0≤(wr .i64 (s0-(↑a0.rules.length:Int)))∧(wr .i64 (s0-(↑a0.rules.length:Int)))<(↑a0.y9.length:Int)) <|
   G7 s0 ((get a0.y9 ((wr .i64 (s0-(↑a0.rules.length:Int))).toNat)).keep,(get a0.y9 ((wr .i64 (s0-(↑a0.rules.length:Int))).toNat)).drop,(↑(((get a0.y9 ((wr .i64 (s0-(↑a0.rules.length:Int))).toNat)).put).length):Int))
 else
  some (.brk ())
def Q7(t0:Unit):Option (w9):=
 some (w9.mk 0 0)
def P1(n:Nat)(a0:y8):Option (w9):=
 bif (bif (bif (bif (decide (1<(↑a0.hierarchy.length:Int)))then true else(decide (1<(↑a0.start.length:Int))))then true else(decide (300<(↑a0.rules.length:Int))))then true else(decide (300<(↑a0.y9.length:Int))))then
  some (w9.mk 2 (-2))
 else
  C1 (R6 (L1 a0) n 0) (Q7)
def aY(a0:Bs)(k0:Nat)(s0:Unit):Option (Ctl (Bool) (Unit) (Unit)):=
 bif (bif (!(bif (decide (97≤(get (bytesOf a0) k0)))then(decide ((get (bytesOf a0) k0)≤122))else false))then(bif (!(bif (bif (bif (decide (48≤(get (bytesOf a0) k0)))then(decide ((get (bytesOf a0) k0)≤57))else false)then true else(decide ((get (bytesOf a0) k0)=95)))then true else(decide ((get (bytesOf a0) k0)=45))))then true else(decide ((↑k0:Int)=0)))else false)then
  some (.ret false)
 else
  some (.nxt ())
def aZ(t0:Unit):Option (Bool):=
 some true
def S4(a0:Bs):Option (Bool):=
 bif (bif (decide ((↑a0.length:Int)<1))then true else(decide (30<(↑a0.length:Int))))then
  some false
 else
  chk (a0.length≤top) <|
  C1 (D5 (aY a0) ((bytesOf a0).length) ()) (aZ)
def N4(a0:(List w6))(k0:Nat)(k3:Nat)(s3:Unit):Option (Ctl (Ctl (w9) (Unit) (Unit)) (Unit) (Unit)):=
 bif (decide (((get (a0.take k0) k3).name)=((get a0 k0).name)))then
  some (.ret (.ret (w9.mk 7 (↑k0:Int))))
 else
  some (.nxt ())
def T8(a0:(List w6))(k0:Nat)(k4:Nat)(s4:Unit):Option (Ctl (Ctl (w9) (Unit) (Unit)) (Unit) (Unit)):=
 bif (bif (decide ((get ((get a0 k0).parents) k4)<0))then true else(decide ((↑k0:Int)≤(get ((get a0 k0).parents) k4))))then
  some (.ret (.ret (w9.mk 3 (↑k0:Int))))
 else
  chk (cV (decide (0<(↑k4:Int))) (0≤(wr .i64 ((↑k4:Int)-1)))∧cV (decide (0<(↑k4:Int))) ((wr .i64 ((↑k4:Int)-1))<(↑(((get a0 k0).parents).length):Int))) <|
  bif (bif (decide (0<(↑k4:Int)))then(decide ((get ((get a0 k0).parents) k4)≤(get ((get a0 k0).parents) ((wr .i64 ((↑k4:Int)-1)).toNat))))else false)then
   some (.ret (.ret (w9.mk 13 (↑k0:Int))))
  else
   some (.nxt ())
def T9(t4:Unit):Option (Ctl (w9) (Unit) (Unit)):=
 some (.nxt ())
def T7(k0:Nat)(a0:(List w6))(t3:Unit):Option (Ctl (w9) (Unit) (Unit)):=
 bif (!decide ((decide ((↑k0:Int)=0))=(decide ((↑(((get a0 k0).parents).length):Int)=0))))then
  some (.ret (w9.mk 5 (↑k0:Int)))
 else
  C1 (D5 (T8 a0 k0) (((get a0 k0).parents).length) ()) (T9)
def T6(a0:(List w6))(k0:Nat)(s0:Unit):Option (Ctl (w9) (Unit) (Unit)):=
 (S4 ((get a0 k0).name)).bind fun v10=>
 bif (!v10)then
  some (.ret (w9.mk 10 (↑k0:Int)))
 else
  chk (0≤(↑k0:Int)∧k0≤a0.length) <|
  C1 (D5 (N4 a0 k0) ((a0.take k0).length) ()) (T7 k0 a0)
def aD(t0:Unit):Option (w9):=
 some (w9.mk 0 0)
def I3(a0:(List w6)):Option (w9):=
 bif (bif (decide ((↑a0.length:Int)=0))then true else(decide (60<(↑a0.length:Int))))then
  some (w9.mk 2 (-1))
 else
  C1 (D5 (T6 a0) a0.length ()) (aD)
def rO(n:Nat)(a0:List w6):Option (List (List Bool)):=
 chk (a0.length*24≤top) <|
 chk (((List.range a0.length).all fun i=>(List.range a0.length).all fun j=>(E1 n a0 (i:Int) (j:Int)).isSome)=true) <|
 some (tf a0.length a0.length fun(i j:Nat)=>(E1 n a0 (i:Int) (j:Int)).getD false)
def ak(v1:(List (List Bool)))(k4:Nat)(k0:Nat)(k5:Nat)(s5:Int):Option (Ctl (Ctl (Ctl (Int) (Unit) (Unit)) (Unit) (Unit)) (Int) (Int)):=
 chk ((↑k5:Int)<(↑v1.length:Int)) <|
 chk ((↑k4:Int)<(↑((get v1 k5).length):Int)) <|
 chk (cV (get (get v1 k5) k4) (k0<((get v1 k5).length))) <|
 bif (bif (get (get v1 k5) k4)then(get (get v1 k5) k0)else false)then
  bif (decide (s5<0))then
   some (.nxt (↑k5:Int))
  else
   chk (0≤s5∧s5<(↑((get v1 k5).length):Int)) <|
   bif (!(get (get v1 k5) s5.toNat))then
    some (.ret (.ret (.ret (↑k0:Int))))
   else
    some (.nxt s5)
 else
  some (.nxt s5)
def ao(t5:Int):Option (Ctl (Ctl (Int) (Unit) (Unit)) (Unit) (Unit)):=
 some (.nxt ())
def aj(a0:(List w6))(v1:(List (List Bool)))(k0:Nat)(k4:Nat)(s4:Unit):Option (Ctl (Ctl (Int) (Unit) (Unit)) (Unit) (Unit)):=
 chk (a0.length≤9223372036854775807) <|
 C1 (D5 (ak v1 k4 k0) a0.length (-1)) (ao)
def aq(t4:Unit):Option (Ctl (Int) (Unit) (Unit)):=
 some (.nxt ())
def ah(a0:(List w6))(v1:(List (List Bool)))(k0:Nat)(s0:Unit):Option (Ctl (Int) (Unit) (Unit)):=
 chk (k0≤9223372036854775807) <|
 C1 (D5 (aj a0 v1 k0) k0 ()) (aq)
def au(t0:Unit):Option (Int):=
 some (-1)
def Z7(n:Nat)(a0:(List w6)):Option (Int):=
 (rO n a0).bind fun v1=>
 chk (a0.length≤9223372036854775807) <|
 C1 (D5 (ah a0 v1) a0.length ()) (au)
def I9(a0:w5)(k0:Nat)(k2:Nat)(s2:Unit):Option (Ctl (Ctl (w9) (Unit) (Unit)) (Unit) (Unit)):=
 bif (decide (((get (a0.B5.take k0) k2).name)=((get a0.B5 k0).name)))then
  some (.ret (.ret (w9.mk 7 (↑k0:Int))))
 else
  some (.nxt ())
def O5(a0:w5)(k0:Nat)(t2:Unit):Option (Ctl (w9) (Unit) (Unit)):=
 bif (bif (bif (bif (decide (((get a0.B5 k0).of_)<0))then true else(decide ((↑a0.types.length:Int)≤((get a0.B5 k0).of_))))then true else(decide (((get a0.B5 k0).value)<0)))then true else(decide ((↑a0.types.length:Int)≤((get a0.B5 k0).value))))then
  some (.ret (w9.mk 3 (↑k0:Int)))
 else
  some (.nxt ())
def I8(a0:w5)(k0:Nat)(s0:Unit):Option (Ctl (w9) (Unit) (Unit)):=
 (S4 ((get a0.B5 k0).name)).bind fun v6=>
 bif (!v6)then
  some (.ret (w9.mk 10 (↑k0:Int)))
 else
  chk (0≤(↑k0:Int)∧k0≤a0.B5.length) <|
  C1 (D5 (I9 a0 k0) ((a0.B5.take k0).length) ()) (O5 a0 k0)
def O4(t0:Unit):Option (w9):=
 some (w9.mk 0 0)
def L9(n:Nat)(a0:w5):Option (w9):=
 bif (decide (40<(↑a0.B5.length:Int)))then
  some (w9.mk 2 (-1))
 else
  (I3 a0.types).bind fun v1=>
  bif (!decide (v1.code=0))then
   some v1
  else
   (Z7 n a0.types).bind fun v2=>
   bif (decide (0≤v2))then
    some (w9.mk 16 v2)
   else
    C1 (D5 (I8 a0) a0.B5.length ()) (O4)
def U1(a1:y4)(k0:Nat)(a0:w5)(k2:Nat)(s2:Unit):Option (Ctl (Ctl (w9) (Unit) (Unit)) (Unit) (Unit)):=
 bif (bif (bif (bif (decide (((get ((get a1.nodes k0).links) k2).gG)<0))then true else(decide ((↑a0.B5.length:Int)≤((get ((get a1.nodes k0).links) k2).gG))))then true else(decide (((get ((get a1.nodes k0).links) k2).to_)<0)))then true else(decide ((↑a1.nodes.length:Int)≤((get ((get a1.nodes k0).links) k2).to_))))then
  some (.ret (.ret (w9.mk 3 (↑k0:Int))))
 else
  chk (cV (decide (0<(↑k2:Int))) (0≤(wr .i64 ((↑k2:Int)-1)))∧cV (decide (0<(↑k2:Int))) ((wr .i64 ((↑k2:Int)-1))<(↑(((get a1.nodes k0).links).length):Int))) <|
  bif (bif (decide (0<(↑k2:Int)))then(decide (((get ((get a1.nodes k0).links) k2).gG)≤((get ((get a1.nodes k0).links) ((wr .i64 ((↑k2:Int)-1)).toNat)).gG)))else false)then
   some (.ret (.ret (w9.mk 13 (↑k0:Int))))
  else
   some (.nxt ())
def U2(t2:Unit):Option (Ctl (w9) (Unit) (Unit)):=
 some (.nxt ())
def U0(a1:y4)(a0:w5)(k0:Nat)(s0:Unit):Option (Ctl (w9) (Unit) (Unit)):=
 bif (bif (decide (((get a1.nodes k0).type)<0))then true else(decide ((↑a0.types.length:Int)≤((get a1.nodes k0).type))))then
  some (.ret (w9.mk 3 (↑k0:Int)))
 else
  C1 (D5 (U1 a1 k0 a0) (((get a1.nodes k0).links).length) ()) (U2)
def aE(t0:Unit):Option (w9):=
 some (w9.mk 0 0)
def R0(a0:w5)(a1:y4):Option (w9):=
 bif (bif (decide ((↑a1.nodes.length:Int)=0))then true else(decide (60<(↑a1.nodes.length:Int))))then
  some (w9.mk 2 (-2))
 else
  C1 (D5 (U0 a1 a0) a1.nodes.length ()) (aE)
def V1(k4:Nat)(a0:y4)(k6:Nat)(s6:(List Bool)):Option (Ctl (Ctl (Ctl (Int) ((List Bool)) ((List Bool))) ((List Bool)) ((List Bool))) ((List Bool)) ((List Bool))):=
 chk ((↑k4:Int)<(↑s6.length:Int)) <|
 bif (get s6 k4)then
  chk (0≤(get ((get a0.nodes k4).links) k6).to_∧(get ((get a0.nodes k4).links) k6).to_<(↑s6.length:Int)) <|
  cW (s6.set (((get ((get a0.nodes k4).links) k6).to_).toNat) true) fun c88=>
  some (.nxt c88)
 else
  some (.nxt s6)
def V2(t6:(List Bool)):Option (Ctl (Ctl (Int) ((List Bool)) ((List Bool))) ((List Bool)) ((List Bool))):=
 some (.nxt t6)
def V0(a0:y4)(k4:Nat)(s4:(List Bool)):Option (Ctl (Ctl (Int) ((List Bool)) ((List Bool))) ((List Bool)) ((List Bool))):=
 C1 (D5 (V1 k4 a0) (((get a0.nodes k4).links).length) s4) (V2)
def V3(t4:(List Bool)):Option (Ctl (Int) ((List Bool)) ((List Bool))):=
 some (.nxt t4)
def U9(a0:y4)(k0:Nat)(s0:(List Bool)):Option (Ctl (Int) ((List Bool)) ((List Bool))):=
 C1 (D5 (V0 a0) a0.nodes.length s0) (V3)
def V4(t0:(List Bool)):Option (Int):=
 (L4 t0 false).bind fun v91=>
 some v91
def N8(a0:y4):Option (Int):=
 chk (a0.nodes.length*1≤top∧a0.nodes.length≤top) <|
 chk (0<(↑a0.nodes.length:Int)) <|
 cW ((List.replicate a0.nodes.length (default:Bool)).set 0 true) fun c7=>
 chk (a0.nodes.length≤9223372036854775807) <|
 C1 (D5 (U9 a0) a0.nodes.length c7) (V4)
def R8(n:Nat)(a1:y4)(k0:Nat)(a0:w5)(k2:Nat)(s2:Unit):Option (Ctl (Ctl (w9) (Unit) (Unit)) (Unit) (Unit)):=
 chk (0≤(get ((get a1.nodes k0).links) k2).gG∧(get ((get a1.nodes k0).links) k2).gG<(↑a0.B5.length:Int)) <|
 (E1 n a0.types ((get a1.nodes k0).type) ((get a0.B5 (((get ((get a1.nodes k0).links) k2).gG).toNat)).of_)).bind fun v25=>
 chk (cV (!(!v25)) (0≤(get ((get a1.nodes k0).links) k2).to_)∧cV (!(!v25)) ((get ((get a1.nodes k0).links) k2).to_<(↑a1.nodes.length:Int))) <|
 (gd (!(!v25)) (E1 n a0.types ((get a1.nodes (((get ((get a1.nodes k0).links) k2).to_).toNat)).type) ((get a0.B5 (((get ((get a1.nodes k0).links) k2).gG).toNat)).value)) default).bind fun v29=>
 bif (bif (!v25)then true else(!v29))then
  some (.ret (.ret (w9.mk 12 (↑k0:Int))))
 else
  some (.nxt ())
def R9(t2:Unit):Option (Ctl (w9) (Unit) (Unit)):=
 some (.nxt ())
def R7(n:Nat)(a1:y4)(a0:w5)(k0:Nat)(s0:Unit):Option (Ctl (w9) (Unit) (Unit)):=
 C1 (D5 (R8 n a1 k0 a0) (((get a1.nodes k0).links).length) ()) (R9)
def S0(a1:y4)(t0:Unit):Option (w9):=
 (N8 a1).bind fun v30=>
 bif (decide (0≤v30))then
  some (w9.mk 5 v30)
 else
  some (w9.mk 0 0)
def G9(n:Nat)(a0:w5)(a1:y4):Option (w9):=
 (R0 a0 a1).bind fun v1=>
 bif (!decide (v1.code=0))then
  some v1
 else
  C1 (D5 (R7 n a1 a0) a1.nodes.length ()) (S0 a1)
def Y3(a0:y4)(a1:Int)(a2:Int)(k0:Nat)(s0:Unit):Option (Ctl (Int) (Unit) (Unit)):=
 bif (decide (((get ((get a0.nodes a1.toNat).links) k0).gG)=a2))then
  some (.ret ((get ((get a0.nodes a1.toNat).links) k0).to_))
 else
  some (.nxt ())
def Y4(t0:Unit):Option (Int):=
 some (-1)
def X4(a0:y4)(a1:Int)(a2:Int):Option (Int):=
 chk (0≤a1∧a1<(↑a0.nodes.length:Int)) <|
 C1 (D5 (Y3 a0 a1 a2) (((get a0.nodes a1.toNat).links).length) ()) (Y4)
def X5(a0:u0):Option (Bool):=
 some (bif (decide (a0.base=[]))then(decide ((↑a0.args.length:Int)=0))else false)
def bg(a0:Bs)(s0:Int):Option (Ctl (Bool) (Int) (Unit)):=
 bif (decide (s0<(↑a0.length:Int)))then
  chk (0≤s0∧s0<(↑a0.length:Int)) <|
  bif (bif (!(bif (decide (97≤(B4 a0 s0)))then(decide ((B4 a0 s0)≤122))else false))then(bif (decide (s0=0))then true else(!(bif (bif (bif (decide (48≤(B4 a0 s0)))then(decide ((B4 a0 s0)≤57))else false)then true else(decide ((B4 a0 s0)=95)))then true else(decide ((B4 a0 s0)=45)))))else false)then
   some (.ret false)
  else
   some (.nxt (wr .i64 (s0+1)))
 else
  some (.brk ())
def dP(t0:Unit):Option (Bool):=
 some true
def aO(n:Nat)(a0:Bs):Option (Bool):=
 bif (bif (decide ((↑a0.length:Int)<1))then true else(decide (30<(↑a0.length:Int))))then
  some false
 else
  C1 (R6 (bg a0) n 0) (dP)
def E0(s0:(List A0)×Int×Nat):Option (Ctl (Int) ((List A0)×Int×Nat) (Unit)):=
 bif (decide (0<(↑s0.2.2:Int)))then
  chk (s0.2.2≤s0.1.length) <|
  chk (0≤(wr .i64 ((↑s0.2.2:Int)-1))∧(wr .i64 ((↑s0.2.2:Int)-1))<(↑s0.2.2:Int)) <|
  chk ((wr .i64 ((↑s0.2.2:Int)-1)).toNat≤s0.2.2) <|
  bif (bif (decide (200<(wr .i64 (s0.2.1+1))))then true else(decide (40<((get s0.1 ((wr .i64 ((↑s0.2.2:Int)-1)).toNat)).depth))))then
   some (.ret 1)
  else
   bif (decide (((get s0.1 ((wr .i64 ((↑s0.2.2:Int)-1)).toNat)).s.base)=[]))then
    bif (!decide ((↑(((get s0.1 ((wr .i64 ((↑s0.2.2:Int)-1)).toNat)).s.args).length):Int)=2))then
     some (.ret 5)
    else
     chk (1<(↑(((get s0.1 ((wr .i64 ((↑s0.2.2:Int)-1)).toNat)).s.args).length):Int)) <|
     chk (0<(↑(((get s0.1 ((wr .i64 ((↑s0.2.2:Int)-1)).toNat)).s.args).length):Int)) <|
     chk ((wr .i64 ((↑s0.2.2:Int)-1)).toNat≤s0.1.length) <|
     cW ((s0.1.take ((wr .i64 ((↑s0.2.2:Int)-1)).toNat))++[(A0.mk (get ((get s0.1 ((wr .i64 ((↑s0.2.2:Int)-1)).toNat)).s.args) 1) (wr .i64 (((get s0.1 ((wr .i64 ((↑s0.2.2:Int)-1)).toNat)).depth)+1))),(A0.mk (get ((get s0.1 ((wr .i64 ((↑s0.2.2:Int)-1)).toNat)).s.args) 0) (wr .i64 (((get s0.1 ((wr .i64 ((↑s0.2.2:Int)-1)).toNat)).depth)+1)))]) fun c25=>
     chk (c25.length*48≤top∧c25.length≤top) <|
     some (.nxt (c25,(wr .i64 (s0.2.1+1)),c25.length))
   else
    bif (bif (bif (!decide (((get s0.1 ((wr .i64 ((↑s0.2.2:Int)-1)).toNat)).s.base)=[101]))then(!decide (((get s0.1 ((wr .i64 ((↑s0.2.2:Int)-1)).toNat)).s.base)=[116]))else false)then true else(!decide ((↑(((get s0.1 ((wr .i64 ((↑s0.2.2:Int)-1)).toNat)).s.args).length):Int)=0)))then
     some (.ret 5)
    else
     some (.nxt (s0.1,(wr .i64 (s0.2.1+1)),(wr .i64 ((↑s0.2.2:Int)-1)).toNat))
 else
  some (.brk ())
def S1(t0:Unit):Option (Int):=
 some 0
def P6(n:Nat)(a0:u0):Option (Int):=
 C1 (R6 (E0) n ([(A0.mk a0 1)],0,1)) (S1)
def K5(a0:(List C2))(s0:Int×Int):Option (Ctl (Int) (Int×Int) (Unit)):=
 bif (decide (0≤s0.2))then
  chk (0≤s0.2∧s0.2<(↑a0.length:Int)) <|
  bif (decide (((get a0 s0.2.toNat).kind)=3))then
   bif (decide (s0.1=0))then
    some (.ret s0.2)
   else
    some (.nxt ((wr .i64 (s0.1-1)),(get a0 s0.2.toNat).up))
  else
   some (.nxt (s0.1,(get a0 s0.2.toNat).up))
 else
  some (.brk ())
def cO(t0:Unit):Option (Int):=
 some (-1)
def S6(n:Nat)(a0:(List C2))(a1:Int):Option (Int):=
 chk (0≤a1∧a1<(↑a0.length:Int)) <|
 C1 (R6 (K5 a0) n ((get a0 a1.toNat).index,(get a0 a1.toNat).up)) (cO)
def fA(a0:u0)(a1:u0):Option (u0):=
 some (u0.mk [] [a0,a1])
def E8:Nat→(u0)→Option (Bs)
 |0,_=>none
 |n+1,a0=>
  bif (!decide (a0.base=[]))then
   some a0.base
  else
   chk (0<(↑a0.args.length:Int)) <|
   (E8 n (get a0.args 0)).bind fun v2=>
   chk (kC [40] v2) <|
   chk (kC (xB [40] v2) [32]) <|
   chk (1<(↑a0.args.length:Int)) <|
   (E8 n (get a0.args 1)).bind fun v6=>
   chk (kC (xB (xB [40] v2) [32]) v6) <|
   chk (kC (xB (xB (xB [40] v2) [32]) v6) [41]) <|
   some (xB (xB (xB (xB [40] v2) [32]) v6) [41])
def V7(n:Nat)(a0:u0)(a1:u0):Option (Bool):=
 (E8 n a0).bind fun v1=>
 (E8 n a1).bind fun v2=>
 some (decide (v1=v2))
def N9(n:Nat)(v1:(List C2))(s0:(List u0)×Int):Option (Ctl (u0×Bool) ((List u0)×Int) ((List u0))):=
 bif (decide (0≤s0.2))then
  chk (0≤s0.2∧s0.2<(↑v1.length:Int)) <|
  bif (decide (((get v1 s0.2.toNat).kind)=1))then
   chk (s0.2<(↑s0.1.length:Int)) <|
   cW (s0.1.set s0.2.toNat ((get v1 s0.2.toNat).typ)) fun c54=>
   some (.nxt (c54,(wr .i64 (s0.2-1))))
  else
   bif (decide (((get v1 s0.2.toNat).kind)=2))then
    (S6 n v1 s0.2).bind fun v57=>
    chk (0≤v57∧v57<(↑v1.length:Int)) <|
    chk (s0.2<(↑s0.1.length:Int)) <|
    cW (s0.1.set s0.2.toNat ((get v1 v57.toNat).typ)) fun c63=>
    some (.nxt (c63,(wr .i64 (s0.2-1))))
   else
    bif (decide (((get v1 s0.2.toNat).kind)=3))then
     chk (0<(↑(((get v1 s0.2.toNat).kids).length):Int)) <|
     chk (0≤(get ((get v1 s0.2.toNat).kids) 0)∧(get ((get v1 s0.2.toNat).kids) 0)<(↑s0.1.length:Int)) <|
     (fA ((get v1 s0.2.toNat).typ) (get s0.1 ((get ((get v1 s0.2.toNat).kids) 0).toNat))).bind fun v71=>
     chk (s0.2<(↑s0.1.length:Int)) <|
     cW (s0.1.set s0.2.toNat v71) fun c75=>
     some (.nxt (c75,(wr .i64 (s0.2-1))))
    else
     bif (decide (((get v1 s0.2.toNat).kind)=4))then
      chk (0<(↑(((get v1 s0.2.toNat).kids).length):Int)) <|
      chk (0≤(get ((get v1 s0.2.toNat).kids) 0)∧(get ((get v1 s0.2.toNat).kids) 0)<(↑s0.1.length:Int)) <|
      chk (1<(↑(((get v1 s0.2.toNat).kids).length):Int)) <|
      chk (0≤(get ((get v1 s0.2.toNat).kids) 1)∧(get ((get v1 s0.2.toNat).kids) 1)<(↑s0.1.length:Int)) <|
      chk (cV (!(bif (!decide (((get s0.1 ((get ((get v1 s0.2.toNat).kids) 0).toNat)).base)=[]))then true else(!decide ((↑(((get s0.1 ((get ((get v1 s0.2.toNat).kids) 0).toNat)).args).length):Int)=2)))) (0<(↑(((get s0.1 ((get ((get v1 s0.2.toNat).kids) 0).toNat)).args).length):Int))) <|
      (gd (!(bif (!decide (((get s0.1 ((get ((get v1 s0.2.toNat).kids) 0).toNat)).base)=[]))then true else(!decide ((↑(((get s0.1 ((get ((get v1 s0.2.toNat).kids) 0).toNat)).args).length):Int)=2)))) (V7 n (get ((get s0.1 ((get ((get v1 s0.2.toNat).kids) 0).toNat)).args) 0) (get s0.1 ((get ((get v1 s0.2.toNat).kids) 1).toNat))) default).bind fun v90=>
      bif (bif (bif (!decide (((get s0.1 ((get ((get v1 s0.2.toNat).kids) 0).toNat)).base)=[]))then true else(!decide ((↑(((get s0.1 ((get ((get v1 s0.2.toNat).kids) 0).toNat)).args).length):Int)=2)))then true else(!v90))then
       some (.ret ((u0.mk [] []),false))
      else
       chk (1<(↑(((get s0.1 ((get ((get v1 s0.2.toNat).kids) 0).toNat)).args).length):Int)) <|
       chk (s0.2<(↑s0.1.length:Int)) <|
       cW (s0.1.set s0.2.toNat (get ((get s0.1 ((get ((get v1 s0.2.toNat).kids) 0).toNat)).args) 1)) fun c95=>
       some (.nxt (c95,(wr .i64 (s0.2-1))))
     else
      some (.nxt (s0.1,(wr .i64 (s0.2-1))))
 else
  some (.brk s0.1)
def Y5(t0:(List u0)):Option (u0×Bool):=
 chk (0<(↑t0.length:Int)) <|
 some ((get t0 0),true)
def X6(n:Nat)(a0:w7):Option (u0×Bool):=
 (Gx n a0).bind fun v1=>
 chk (v1.length*40≤top∧v1.length≤top) <|
 C1 (R6 (N9 n v1) n ((List.replicate v1.length (default:u0)),(wr .i64 ((↑v1.length:Int)-1)))) (Y5)
def V5(s0:(List y5)×Int×Nat)(j5:Int)(s6:(List y5)×Int×Nat):Option (Ctl (Ctl (w9) ((List y5)×Int×Nat) (Unit)) ((List y5)×Int×Nat) ((List y5)×Nat)):=
 bif (decide (0≤s6.2.1))then
  chk (0≤s6.2.1∧s6.2.1<(↑(((get s0.1 ((wr .i64 ((↑s0.2.2:Int)-1)).toNat)).t.args).length):Int)) <|
  chk (s6.2.2≤s6.1.length) <|
  cW ((s6.1.take s6.2.2)++[(y5.mk (get ((get s0.1 ((wr .i64 ((↑s0.2.2:Int)-1)).toNat)).t.args) s6.2.1.toNat) (wr .i64 (((get s0.1 ((wr .i64 ((↑s0.2.2:Int)-1)).toNat)).depth)+1)) j5)]) fun c57=>
  chk (c57.length*112≤top∧c57.length≤top) <|
  some (.nxt (c57,(wr .i64 (s6.2.1-1)),c57.length))
 else
  some (.brk (s6.1,s6.2.2))
def V6(s0:(List y5)×Int×Nat)(t6:(List y5)×Nat):Option (Ctl (w9) ((List y5)×Int×Nat) (Unit)):=
 some (.nxt (t6.1,(wr .i64 (s0.2.1+1)),t6.2))
def K4(n:Nat)(s0:(List y5)×Int×Nat)(j5:Int):Option (Ctl (w9) ((List y5)×Int×Nat) (Unit)):=
 C1 (R6 (V5 s0 j5) n (s0.1,(wr .i64 ((↑(((get s0.1 ((wr .i64 ((↑s0.2.2:Int)-1)).toNat)).t.args).length):Int)-1)),(wr .i64 ((↑s0.2.2:Int)-1)).toNat)) (V6 s0)
def D1(n:Nat)(s0:(List y5)×Int×Nat)(j4:Int):Option (Ctl (w9) ((List y5)×Int×Nat) (Unit)):=
 bif (!decide (j4=0))then
  some (.ret (w9.mk j4 s0.2.1))
 else
  bif (decide (((get s0.1 ((wr .i64 ((↑s0.2.2:Int)-1)).toNat)).t.kind)=3))then
   K4 n s0 (wr .i64 (((get s0.1 ((wr .i64 ((↑s0.2.2:Int)-1)).toNat)).bound)+1))
  else
   K4 n s0 ((get s0.1 ((wr .i64 ((↑s0.2.2:Int)-1)).toNat)).bound)
def C7(n:Nat)(s0:(List y5)×Int×Nat):Option (Ctl (w9) ((List y5)×Int×Nat) (Unit)):=
 bif (decide (0<(↑s0.2.2:Int)))then
  chk (s0.2.2≤s0.1.length) <|
  chk (0≤(wr .i64 ((↑s0.2.2:Int)-1))∧(wr .i64 ((↑s0.2.2:Int)-1))<(↑s0.2.2:Int)) <|
  chk ((wr .i64 ((↑s0.2.2:Int)-1)).toNat≤s0.2.2) <|
  bif (bif (decide (200≤s0.2.1))then true else(decide (40<((get s0.1 ((wr .i64 ((↑s0.2.2:Int)-1)).toNat)).depth))))then
   D1 n s0 1
  else
   bif (bif (decide (((get s0.1 ((wr .i64 ((↑s0.2.2:Int)-1)).toNat)).t.kind)<1))then true else(decide (4<((get s0.1 ((wr .i64 ((↑s0.2.2:Int)-1)).toNat)).t.kind))))then
    D1 n s0 4
   else
    chk (0≤(get s0.1 ((wr .i64 ((↑s0.2.2:Int)-1)).toNat)).t.kind∧(get s0.1 ((wr .i64 ((↑s0.2.2:Int)-1)).toNat)).t.kind<5) <|
    (gd ((bif (bif (decide ((↑(((get s0.1 ((wr .i64 ((↑s0.2.2:Int)-1)).toNat)).t.args).length):Int)=(get [0,0,0,1,2] (((get s0.1 ((wr .i64 ((↑s0.2.2:Int)-1)).toNat)).t.kind).toNat))))then(bif (decide (((get s0.1 ((wr .i64 ((↑s0.2.2:Int)-1)).toNat)).t.kind)=1))then true else(decide (((get s0.1 ((wr .i64 ((↑s0.2.2:Int)-1)).toNat)).t.name)=[])))else false)then(bif (decide (((get s0.1 ((wr .i64 ((↑s0.2.2:Int)-1)).toNat)).t.kind)=2))then true else(decide (((get s0.1 ((wr .i64 ((↑s0.2.2:Int)-1)).toNat)).t.index)=0)))else false)&&(!(bif (decide (((get s0.1 ((wr .i64 ((↑s0.2.2:Int)-1)).toNat)).t.kind)=1))then true else(decide (((get s0.1 ((wr .i64 ((↑s0.2.2:Int)-1)).toNat)).t.kind)=3))))) (X5 ((get s0.1 ((wr .i64 ((↑s0.2.2:Int)-1)).toNat)).t.type)) default).bind fun v41=>
    bif (!(bif (bif (bif (decide ((↑(((get s0.1 ((wr .i64 ((↑s0.2.2:Int)-1)).toNat)).t.args).length):Int)=(get [0,0,0,1,2] (((get s0.1 ((wr .i64 ((↑s0.2.2:Int)-1)).toNat)).t.kind).toNat))))then(bif (decide (((get s0.1 ((wr .i64 ((↑s0.2.2:Int)-1)).toNat)).t.kind)=1))then true else(decide (((get s0.1 ((wr .i64 ((↑s0.2.2:Int)-1)).toNat)).t.name)=[])))else false)then(bif (decide (((get s0.1 ((wr .i64 ((↑s0.2.2:Int)-1)).toNat)).t.kind)=2))then true else(decide (((get s0.1 ((wr .i64 ((↑s0.2.2:Int)-1)).toNat)).t.index)=0)))else false)then(bif (bif (decide (((get s0.1 ((wr .i64 ((↑s0.2.2:Int)-1)).toNat)).t.kind)=1))then true else(decide (((get s0.1 ((wr .i64 ((↑s0.2.2:Int)-1)).toNat)).t.kind)=3)))then true else v41)else false))then
     D1 n s0 5
    else
     (gd (decide (((get s0.1 ((wr .i64 ((↑s0.2.2:Int)-1)).toNat)).t.kind)=1)) (aO n ((get s0.1 ((wr .i64 ((↑s0.2.2:Int)-1)).toNat)).t.name)) default).bind fun v42=>
     bif (bif (decide (((get s0.1 ((wr .i64 ((↑s0.2.2:Int)-1)).toNat)).t.kind)=1))then(!v42)else false)then
      D1 n s0 10
     else
      (gd (bif (decide (((get s0.1 ((wr .i64 ((↑s0.2.2:Int)-1)).toNat)).t.kind)=1))then true else(decide (((get s0.1 ((wr .i64 ((↑s0.2.2:Int)-1)).toNat)).t.kind)=3))) (P6 n ((get s0.1 ((wr .i64 ((↑s0.2.2:Int)-1)).toNat)).t.type)) default).bind fun v43=>
      bif (bif (bif (decide (((get s0.1 ((wr .i64 ((↑s0.2.2:Int)-1)).toNat)).t.kind)=1))then true else(decide (((get s0.1 ((wr .i64 ((↑s0.2.2:Int)-1)).toNat)).t.kind)=3)))then(!decide (v43=0))else false)then
       D1 n s0 12
      else
       bif (bif (decide (((get s0.1 ((wr .i64 ((↑s0.2.2:Int)-1)).toNat)).t.kind)=2))then(bif (decide (((get s0.1 ((wr .i64 ((↑s0.2.2:Int)-1)).toNat)).t.index)<0))then true else(decide (((get s0.1 ((wr .i64 ((↑s0.2.2:Int)-1)).toNat)).bound)≤((get s0.1 ((wr .i64 ((↑s0.2.2:Int)-1)).toNat)).t.index))))else false)then
        D1 n s0 15
       else
        D1 n s0 0
 else
  some (.brk ())
def V8(n:Nat)(a0:w7)(t0:Unit):Option (w9):=
 (X6 n a0).bind fun v62=>
 bif (!v62.2)then
  some (w9.mk 12 (-1))
 else
  some (w9.mk 0 0)
def S7(n:Nat)(a0:w7):Option (w9):=
 C1 (R6 (C7 n) n ([(y5.mk a0 1 0)],0,1)) (V8 n a0)
def K6(n:Nat)(a0:w7):Option (w9):=
 (S7 n a0).bind fun v1=>
 some v1
def G4(a1:w4)(k0:Nat)(s0:Unit):Option (Ctl (Int) (Unit) (Unit)):=
 (X4 a1.graph 0 (↑k0:Int)).bind fun v2=>
 bif (!decide ((decide (0≤v2))=(decide ((↑k0:Int)≤a1.kids))))then
  some (.ret 5)
 else
  some (.nxt ())
def V9(n:Nat)(a1:w4)(t0:Unit):Option (Int):=
 (K6 n a1.meaning).bind fun v3=>
 some v3.code
def S8(n:Nat)(a0:w5)(a1:w4):Option (Int):=
 bif (bif (bif (bif (decide (a1.kids<1))then true else(decide (3<a1.kids)))then true else(decide (a1.weight<0)))then true else(decide (1000000<a1.weight)))then
  some 3
 else
  (G9 n a0 a1.graph).bind fun v1=>
  bif (!decide (v1.code=0))then
   some v1.code
  else
   C1 (D5 (G4 a1) 4 ()) (V9 n a1)
def D9(j0:Int×Int×Int)(a0:Bs)(s1:Int×Int):Option (Ctl (Int) (Int×Int) (Int)):=
 bif (decide (s1.2<j0.1))then
  chk (0≤s1.2∧s1.2<(↑a0.length:Int)) <|
  bif (bif (decide ((B4 a0 s1.2)<128))then true else(decide (191<(B4 a0 s1.2))))then
   some (.ret 0)
  else
   some (.nxt ((wr .i64 ((wr .i64 ((wr .i64 (64*s1.1))+(wr .i64 (B4 a0 s1.2))))-128)),(wr .i64 (s1.2+1))))
 else
  some (.brk s1.1)
def U3(j0:Int×Int×Int)(t1:Int):Option (Int):=
 bif (bif (bif (decide (t1<j0.2.1))then true else(decide (1114111<t1)))then true else(bif (decide (55296≤t1))then(decide (t1≤57343))else false))then
  some 0
 else
  some j0.1
def E3(n:Nat)(a0:Bs)(j0:Int×Int×Int):Option (Int):=
 bif (decide ((↑a0.length:Int)<j0.1))then
  some 0
 else
  C1 (R6 (D9 j0 a0) n (j0.2.2,1)) (U3 j0)
def R2(n:Nat)(a0:Bs):Option (Int):=
 chk (0<(↑a0.length:Int)) <|
 bif (decide ((B4 a0 0)<128))then
  some 1
 else
  bif (bif (decide (194≤(B4 a0 0)))then(decide ((B4 a0 0)≤223))else false)then
   E3 n a0 (2,128,(wr .i64 ((wr .i64 (B4 a0 0))-192)))
  else
   bif (bif (decide (224≤(B4 a0 0)))then(decide ((B4 a0 0)≤239))else false)then
    E3 n a0 (3,2048,(wr .i64 ((wr .i64 (B4 a0 0))-224)))
   else
    bif (bif (decide (240≤(B4 a0 0)))then(decide ((B4 a0 0)≤244))else false)then
     E3 n a0 (4,65536,(wr .i64 ((wr .i64 (B4 a0 0))-240)))
    else
     some 0
def bh(a0:Bs)(s0:Nat×Int):Option (Ctl (Bool) (Nat×Int) (Int)):=
 bif (decide (s0.1<a0.length))then
  chk (s0.1<a0.length) <|
  bif (bif (bif (bif (bif (bif (bif (bif (bif (decide ((rune a0 s0.1)=32))then true else(decide ((rune a0 s0.1)=9)))then true else(decide ((rune a0 s0.1)=10)))then true else(decide ((rune a0 s0.1)=40)))then true else(decide ((rune a0 s0.1)=41)))then true else(decide ((rune a0 s0.1)=91)))then true else(decide ((rune a0 s0.1)=93)))then true else(decide ((rune a0 s0.1)=44)))then true else(decide ((rune a0 s0.1)=59)))then
   some (.ret false)
  else
   some (.nxt ((s0.1+je a0 s0.1),(wr .i64 (s0.2+1))))
 else
  some (.brk s0.2)
def bn(n:Nat)(a0:Bs)(s1:Int):Option (Ctl (Bool) (Int) (Unit)):=
 bif (decide (s1<(↑a0.length:Int)))then
  chk (0≤s1∧s1.toNat≤a0.length) <|
  (R2 n (a0.drop s1.toNat)).bind fun v8=>
  bif (decide (v8=0))then
   some (.ret false)
  else
   some (.nxt (wr .i64 (s1+v8)))
 else
  some (.brk ())
def dQ(t1:Unit):Option (Bool):=
 some true
def bk(n:Nat)(a0:Bs)(t0:Int):Option (Bool):=
 bif (bif (decide (t0<1))then true else(decide (30<t0)))then
  some false
 else
  C1 (R6 (bn n a0) n 0) (dQ)
def aR(n:Nat)(a0:Bs):Option (Bool):=
 C1 (R6 (bh a0) n (0,0)) (bk n a0)
def W0(n:Nat)(a0:w5)(a1:x7):Option (Int):=
 (aR n a1.word).bind fun v1=>
 bif (!v1)then
  some 10
 else
  bif (bif (decide (a1.weight<0))then true else(decide (1000000<a1.weight)))then
   some 3
  else
   (G9 n a0 a1.graph).bind fun v2=>
   bif (!decide (v2.code=0))then
    some v2.code
   else
    (K6 n a1.meaning).bind fun v3=>
    some v3.code
def L0(a0:x6)(k0:Nat)(k1:Nat)(s1:Unit):Option (Ctl (Ctl (w9) (Unit) (Unit)) (Unit) (Unit)):=
 bif (decide (((get (a0.rules.take k0) k1).name)=((get a0.rules k0).name)))then
  some (.ret (.ret (w9.mk 7 (↑k0:Int))))
 else
  some (.nxt ())
def P9(n:Nat)(a0:x6)(k0:Nat)(t1:Unit):Option (Ctl (w9) (Unit) (Unit)):=
 (S8 n a0.hierarchy (get a0.rules k0)).bind fun v5=>
 bif (!decide (v5=0))then
  some (.ret (w9.mk v5 (↑k0:Int)))
 else
  some (.nxt ())
def P8(n:Nat)(a0:x6)(k0:Nat)(s0:Unit):Option (Ctl (w9) (Unit) (Unit)):=
 (S4 ((get a0.rules k0).name)).bind fun v2=>
 bif (!v2)then
  some (.ret (w9.mk 10 (↑k0:Int)))
 else
  chk (0≤(↑k0:Int)∧k0≤a0.rules.length) <|
  C1 (D5 (L0 a0 k0) ((a0.rules.take k0).length) ()) (P9 n a0 k0)
def Q5(n:Nat)(a0:x6)(k2:Nat)(s2:Unit):Option (Ctl (w9) (Unit) (Unit)):=
 (W0 n a0.hierarchy (get a0.y9 k2)).bind fun v6=>
 bif (!decide (v6=0))then
  some (.ret (w9.mk v6 (↑k2:Int)))
 else
  some (.nxt ())
def Q6(n:Nat)(a0:x6)(t2:Unit):Option (w9):=
 (G9 n a0.hierarchy a0.start).bind fun v7=>
 bif (!decide (v7.code=0))then
  some (w9.mk v7.code (-1))
 else
  some (w9.mk 0 0)
def Q0(n:Nat)(a0:x6)(t0:Unit):Option (w9):=
 C1 (D5 (Q5 n a0) a0.y9.length ()) (Q6 n a0)
def G5(n:Nat)(a0:x6):Option (w9):=
 (L9 n a0.hierarchy).bind fun v1=>
 bif (!decide (v1.code=0))then
  some v1
 else
  bif (decide ((↑a0.hierarchy.B5.length:Int)≤3))then
   some (w9.mk 9 (-1))
  else
   bif (bif (decide (40<(↑a0.rules.length:Int)))then true else(decide (100<(↑a0.y9.length:Int))))then
    some (w9.mk 2 (-1))
   else
    C1 (D5 (P8 n a0) a0.rules.length ()) (Q0 n a0)
def J0(s2:(List w4)×Int×Int)(a1:y8)(a0:x6)(s5:(List w4)×Int×Int):Option (Ctl (Ctl (x6×w9) ((List w4)×Int×Int) ((List w4)×Int)) ((List w4)×Int×Int) ((List w4)×Int)):=
 chk (0≤s2.2.2∧s2.2.2<(↑a1.rules.length:Int)) <|
 bif (decide (s5.2.1<((get a1.rules s2.2.2.toNat).keep)))then
  bif (decide (s5.2.2<(↑a0.rules.length:Int)))then
   chk (0≤s5.2.2∧s5.2.2<(↑a0.rules.length:Int)) <|
   cW (s5.1++[(get a0.rules s5.2.2.toNat)]) fun c51=>
   chk (c51.length*152≤top∧c51.length≤top) <|
   some (.nxt (c51,(wr .i64 (s5.2.1+1)),(wr .i64 (s5.2.2+1))))
  else
   some (.nxt (s5.1,(wr .i64 (s5.2.1+1)),(wr .i64 (s5.2.2+1))))
 else
  some (.brk (s5.1,s5.2.2))
def J1(a1:y8)(s2:(List w4)×Int×Int)(s6:(List w4)×Int):Option (Ctl (Ctl (x6×w9) ((List w4)×Int×Int) ((List w4)×Int)) ((List w4)×Int) ((List w4))):=
 bif (decide (s6.2<(↑(((get a1.rules s2.2.2.toNat).put).length):Int)))then
  chk (0≤s6.2∧s6.2<(↑(((get a1.rules s2.2.2.toNat).put).length):Int)) <|
  cW (s6.1++[(get ((get a1.rules s2.2.2.toNat).put) s6.2.toNat)]) fun c68=>
  chk (c68.length*152≤top∧c68.length≤top) <|
  some (.nxt (c68,(wr .i64 (s6.2+1))))
 else
  some (.brk s6.1)
def O7(t5:(List w4)×Int)(a1:y8)(s2:(List w4)×Int×Int)(t6:(List w4)):Option (Ctl (x6×w9) ((List w4)×Int×Int) ((List w4)×Int)):=
 some (.nxt (t6,(wr .i64 (t5.2+((get a1.rules s2.2.2.toNat).drop))),(wr .i64 (s2.2.2+1))))
def O6(n:Nat)(s2:(List w4)×Int×Int)(a1:y8)(t5:(List w4)×Int):Option (Ctl (x6×w9) ((List w4)×Int×Int) ((List w4)×Int)):=
 chk (0≤s2.2.2∧s2.2.2<(↑a1.rules.length:Int)) <|
 C1 (R6 (J1 a1 s2) n (t5.1,0)) (O7 t5 a1 s2)
def J2(n:Nat)(a1:y8)(a0:x6)(s2:(List w4)×Int×Int):Option (Ctl (x6×w9) ((List w4)×Int×Int) ((List w4)×Int)):=
 bif (decide (s2.2.2<(↑a1.rules.length:Int)))then
  C1 (R6 (J0 s2 a1 a0) n (s2.1,0,s2.2.1)) (O6 n s2 a1)
 else
  some (.brk (s2.1,s2.2.1))
def H9(s7:(List x7)×Int×Int)(a1:y8)(a0:x6)(s10:(List x7)×Int×Int):Option (Ctl (Ctl (x6×w9) ((List x7)×Int×Int) ((List x7)×Int)) ((List x7)×Int×Int) ((List x7)×Int)):=
 chk (0≤s7.2.1∧s7.2.1<(↑a1.y9.length:Int)) <|
 bif (decide (s10.2.1<((get a1.y9 s7.2.1.toNat).keep)))then
  bif (decide (s10.2.2<(↑a0.y9.length:Int)))then
   chk (0≤s10.2.2∧s10.2.2<(↑a0.y9.length:Int)) <|
   cW (s10.1++[(get a0.y9 s10.2.2.toNat)]) fun c121=>
   chk (c121.length*144≤top∧c121.length≤top) <|
   some (.nxt (c121,(wr .i64 (s10.2.1+1)),(wr .i64 (s10.2.2+1))))
  else
   some (.nxt (s10.1,(wr .i64 (s10.2.1+1)),(wr .i64 (s10.2.2+1))))
 else
  some (.brk (s10.1,s10.2.2))
def I0(a1:y8)(s7:(List x7)×Int×Int)(s11:(List x7)×Int):Option (Ctl (Ctl (x6×w9) ((List x7)×Int×Int) ((List x7)×Int)) ((List x7)×Int) ((List x7))):=
 bif (decide (s11.2<(↑(((get a1.y9 s7.2.1.toNat).put).length):Int)))then
  chk (0≤s11.2∧s11.2<(↑(((get a1.y9 s7.2.1.toNat).put).length):Int)) <|
  cW (s11.1++[(get ((get a1.y9 s7.2.1.toNat).put) s11.2.toNat)]) fun c138=>
  chk (c138.length*144≤top∧c138.length≤top) <|
  some (.nxt (c138,(wr .i64 (s11.2+1))))
 else
  some (.brk s11.1)
def N7(s7:(List x7)×Int×Int)(t10:(List x7)×Int)(a1:y8)(t11:(List x7)):Option (Ctl (x6×w9) ((List x7)×Int×Int) ((List x7)×Int)):=
 some (.nxt (t11,(wr .i64 (s7.2.1+1)),(wr .i64 (t10.2+((get a1.y9 s7.2.1.toNat).drop)))))
def N6(n:Nat)(s7:(List x7)×Int×Int)(a1:y8)(t10:(List x7)×Int):Option (Ctl (x6×w9) ((List x7)×Int×Int) ((List x7)×Int)):=
 chk (0≤s7.2.1∧s7.2.1<(↑a1.y9.length:Int)) <|
 C1 (R6 (I0 a1 s7) n (t10.1,0)) (N7 s7 t10 a1)
def J3(n:Nat)(a1:y8)(a0:x6)(s7:(List x7)×Int×Int):Option (Ctl (x6×w9) ((List x7)×Int×Int) ((List x7)×Int)):=
 bif (decide (s7.2.1<(↑a1.y9.length:Int)))then
  C1 (R6 (H9 s7 a1 a0) n (s7.1,0,s7.2.2)) (N6 n s7 a1)
 else
  some (.brk (s7.1,s7.2.2))
def O9(n:Nat)(t2:(List w4)×Int)(a0:x6)(j0:(List w6)×(List y3))(j1:(List w8))(t7:(List x7)×Int):Option (x6×w9):=
 bif (bif (!(decide (t2.2=(↑a0.rules.length:Int))))then true else(!decide (t7.2=(↑a0.y9.length:Int))))then
  some ((x6.mk (w5.mk [] []) [] [] (y4.mk [])),(w9.mk 9 (-2)))
 else
  (G5 n (x6.mk (w5.mk j0.1 j0.2) t2.1 t7.1 (y4.mk j1))).bind fun v143=>
  bif (!decide (v143.code=0))then
   some ((x6.mk (w5.mk [] []) [] [] (y4.mk [])),(w9.mk v143.code (-3)))
  else
   some ((x6.mk (w5.mk j0.1 j0.2) t2.1 t7.1 (y4.mk j1)),(w9.mk 0 0))
def O8(n:Nat)(a1:y8)(a0:x6)(j0:(List w6)×(List y3))(j1:(List w8))(t2:(List w4)×Int):Option (x6×w9):=
 C1 (R6 (J3 n a1 a0) n ([],0,0)) (O9 n t2 a0 j0 j1)
def F8(n:Nat)(a1:y8)(a0:x6)(j0:(List w6)×(List y3))(j1:(List w8)):Option (x6×w9):=
 C1 (R6 (J2 n a1 a0) n ([],0,0)) (O8 n a1 a0 j0 j1)
def F9(n:Nat)(a1:y8)(a0:x6)(j0:(List w6)×(List y3)):Option (x6×w9):=
 bif (decide ((↑a1.start.length:Int)=1))then
  chk (0<(↑a1.start.length:Int)) <|
  F8 n a1 a0 j0 ((get a1.start 0).nodes)
 else
  F8 n a1 a0 j0 a0.start.nodes
def H7(n:Nat)(a0:x6)(a1:y8):Option (x6×w9):=
 bif (decide ((↑a1.hierarchy.length:Int)=1))then
  chk (0<(↑a1.hierarchy.length:Int)) <|
  F9 n a1 a0 ((get a1.hierarchy 0).types,(get a1.hierarchy 0).B5)
 else
  F9 n a1 a0 (a0.hierarchy.types,a0.hierarchy.B5)
def E4(n:Nat)(v10:x6×w9)(j4:Int×Int×(List w6)×(List y3)×(List w4)×(List x7)×(List w8)):Option (Bool):=
 (gd (decide (v10.2.code=j4.1)&&(decide (v10.2.index=j4.2.1))) (O1 n v10.1 (x6.mk (w5.mk j4.2.2.1 j4.2.2.2.1) j4.2.2.2.2.1 j4.2.2.2.2.2.1 (y4.mk j4.2.2.2.2.2.2))) default).bind fun v13=>
 some (bif (decide (v10.2.code=j4.1)&&(decide (v10.2.index=j4.2.1)))then v13 else false)
def C9(n:Nat)(a0:x6)(a1:y8)(v10:x6×w9)(j3:Int×Int):Option (Bool):=
 bif (decide (j3.1=0))then
  (H7 n a0 a1).bind fun v12=>
  E4 n v10 (v12.2.code,v12.2.index,v12.1.hierarchy.types,v12.1.hierarchy.B5,v12.1.rules,v12.1.y9,v12.1.start.nodes)
 else
  E4 n v10 (j3.1,j3.2,[],[],[],[],[])
def E5(n:Nat)(a0:x6)(a1:y8)(v3:w9)(j0:Unit):Option (Bool):=
 (jq n a0 a1).bind fun v10=>
 (G5 n a0).bind fun v11=>
 bif (decide (v11.code=0))then
  C9 n a0 a1 v10 (v3.code,v3.index)
 else
  C9 n a0 a1 v10 (v11.code,v11.index)
def I4(a1:y8)(s1:Int×Int):Option (Ctl (Bool) (Int×Int) (Int)):=
 bif (decide (s1.2<(↑a1.rules.length:Int)))then
  chk (0≤s1.2∧s1.2<(↑a1.rules.length:Int)) <|
  some (.nxt ((wr .i64 (s1.1+(wr .i64 (((get a1.rules s1.2.toNat).drop)+(↑(((get a1.rules s1.2.toNat).put).length):Int))))),(wr .i64 (s1.2+1))))
 else
  some (.brk s1.1)
def I6(a1:y8)(s2:Int×Int):Option (Ctl (Bool) (Int×Int) (Int)):=
 bif (decide (s2.1<(↑a1.y9.length:Int)))then
  chk (0≤s2.1∧s2.1<(↑a1.y9.length:Int)) <|
  some (.nxt ((wr .i64 (s2.1+1)),(wr .i64 (s2.2+(wr .i64 (((get a1.y9 s2.1.toNat).drop)+(↑(((get a1.y9 s2.1.toNat).put).length):Int)))))))
 else
  some (.brk s2.2)
def I7(n:Nat)(v2:Int×w9)(a0:x6)(a1:y8)(v3:w9)(t2:Int):Option (Bool):=
 bif (bif (!decide (v2.2.code=0))then true else(!decide (v2.1=t2)))then
  some false
 else
  E5 n a0 a1 v3 ()
def I5(n:Nat)(a1:y8)(v2:Int×w9)(a0:x6)(v3:w9)(t1:Int):Option (Bool):=
 C1 (R6 (I6 a1) n (0,t1)) (I7 n v2 a0 a1 v3)
def L5(n:Nat)(a0:x6)(a1:y8):Option (Bool):=
 (T5 n).bind fun v1=>
 bif (!v1)then
  some false
 else
  (nN a1).bind fun v2=>
  (P1 n a1).bind fun v3=>
  bif (!decide (v3.code=0))then
   bif (bif (!(decide (v2.2.code=v3.code)&&(decide (v2.2.index=v3.index))))then true else(!decide (v2.1=0)))then
    some false
   else
    E5 n a0 a1 v3 ()
  else
   C1 (R6 (I4 a1) n ((wr .i64 ((↑a1.hierarchy.length:Int)+(↑a1.start.length:Int))),0)) (I5 n a1 v2 a0 v3)
end Go.Proofs.YtbgkcolebacbmaaGreatDoor

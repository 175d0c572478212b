import Derived.Test.YtfogbhjeihkliaaGreatDoorDXHand
import Derived.Test.YtfogbhjeihkliaaGreatDoorDXRowT
import Derived.Test.YtfogbhjeihkliaaGreatDoorDXCmp
set_option linter.unusedVariables false
set_option linter.unusedSimpArgs false
namespace Go.Proofs.YtfogbhjeihkliaaGreatDoor
open Go Go.Am
def eN(a0:(List x7))(s0:(List Bool)×Int)(k2:Nat)(s2:(List Bool)):Option (Ctl (Ctl (Bool) ((List Bool)×Int) ((List Bool))) ((List Bool)) ((List Bool))):=
 chk (0≤(get ((get a0 s0.2.toNat).parents) k2)∧(get ((get a0 s0.2.toNat).parents) k2)<(↑s2.length:Int)) <|
 eE (s2.set ((get ((get a0 s0.2.toNat).parents) k2).toNat) true) fun c44=>
 some (.nxt c44)
def eO(s0:(List Bool)×Int)(t2:(List Bool)):Option (Ctl (Bool) ((List Bool)×Int) ((List Bool))):=
 some (.nxt (t2,(wr .i64 (s0.2-1))))
def eM(a2:Int)(a0:(List x7))(s0:(List Bool)×Int):Option (Ctl (Bool) ((List Bool)×Int) ((List Bool))):=
 bif (decide (a2<s0.2))then
  chk (0≤s0.2∧s0.2<(↑s0.1.length:Int)) <|
  bif (get s0.1 s0.2.toNat)then
   chk (s0.2<(↑a0.length:Int)) <|
   B5 (F2 (eN a0 s0) (((get a0 s0.2.toNat).parents).length) s0.1) (eO s0)
  else
   some (.nxt (s0.1,(wr .i64 (s0.2-1))))
 else
  some (.brk s0.1)
def eP(a2:Int)(t0:(List Bool)):Option (Bool):=
 chk (0≤a2∧a2<(↑t0.length:Int)) <|
 some (get t0 a2.toNat)
def F8(n:Nat)(a0:(List x7))(a1:Int)(a2:Int):Option (Bool):=
 chk (a0.length*1≤top∧a0.length≤top) <|
 chk (0≤a1∧a1<(↑a0.length:Int)) <|
 eE ((List.replicate a0.length (default:Bool)).set a1.toNat true) fun c8=>
 B5 (P4 (eM a2 a0) n (c8,a1)) (eP a2)
def nZ(a0:Int):Option (Bool):=
 some false
def T7(a0:Int)(a1:Int):Option (Int):=
 (nZ a0).bind fun v1=>
 (nZ a1).bind fun v2=>
 bif v1 then
  bif v2 then
   some 0
  else
   some (-1)
 else
  bif v2 then
   some 1
  else
   bif (decide (a0<a1))then
    some (-1)
   else
    bif (decide (a1<a0))then
     some 1
    else
     some 0
def nW(a0:(List Int))(k0:Nat)(s0:Unit):Option (Ctl (Int) (Unit) (Unit)):=
 bif (!decide ((get a0 k0)=0))then
  some (.ret (get a0 k0))
 else
  some (.nxt ())
def nX(t0:Unit):Option (Int):=
 some 0
def qz(a0:(List Int)):Option (Int):=
 B5 (F2 (nW a0) a0.length ()) (nX)
def T4(a0:w5)(a1:w5):Option (Int):=
 (T7 a0.from_ a1.from_).bind fun v1=>
 (T7 a0.to_ a1.to_).bind fun v2=>
 (T7 a0.level a1.level).bind fun v3=>
 (T7 a0.rule a1.rule).bind fun v4=>
 (T7 a0.lex a1.lex).bind fun v5=>
 (qz [v1,v2,v3,v4,v5]).bind fun v7=>
 some v7
def R5(a0:Bs):Option (w6):=
 some (w6.mk a0 [])
def D9(a0:w6)(a1:w6):Option (w6):=
 some (w6.mk [] [a0,a1])
def bM(a1:(List Int))(a0:(List Bs))(k0:Nat)(s0:(List x7)):Option (Ctl (y6) ((List x7)) ((List x7))):=
 bif (decide (0<(↑k0:Int)))then
  chk ((↑k0:Int)<(↑a1.length:Int)) <|
  eE (s0++[(x7.mk (get a0 k0) [(get a1 k0)])]) fun c14=>
  chk (c14.length*40≤top∧c14.length≤top) <|
  some (.nxt c14)
 else
  chk ((s0.length+1)*40≤top∧s0.length+1≤top) <|
  some (.nxt (s0++[(x7.mk (get a0 k0) [])]))
def bN(a2:(List y8))(t0:(List x7)):Option (y6):=
 some (y6.mk t0 a2)
def dA(a0:(List Bs))(a1:(List Int))(a2:(List y8)):Option (y6):=
 B5 (F2 (bM a1 a0) a0.length []) (bN a2)
def A0(a0:Int):Option (x9):=
 some (x9.mk 2 [] a0 (w6.mk [] []) [])
def C2(a0:x9)(a1:x9):Option (x9):=
 some (x9.mk 4 [] 0 (w6.mk [] []) [a0,a1])
def B1(a0:w6)(a1:x9):Option (x9):=
 some (x9.mk 3 [] 0 a0 [a1])
def fM(a0:Bool):Option ((List x9)):=
 (R5 [101]).bind fun v1=>
 (R5 [116]).bind fun v2=>
 (D9 v1 v2).bind fun v3=>
 (D9 v3 v2).bind fun v4=>
 (D9 v1 v3).bind fun v5=>
 (D9 v3 v4).bind fun v6=>
 (A0 1).bind fun v7=>
 (A0 0).bind fun v8=>
 (C2 v7 v8).bind fun v9=>
 (B1 v3 v9).bind fun v10=>
 (B1 v4 v10).bind fun v11=>
 (A0 1).bind fun v12=>
 (A0 0).bind fun v13=>
 (C2 v12 v13).bind fun v14=>
 (B1 v3 v14).bind fun v15=>
 (B1 v6 v15).bind fun v16=>
 (A0 0).bind fun v17=>
 (B1 v3 v17).bind fun v18=>
 (A0 1).bind fun v19=>
 (A0 3).bind fun v20=>
 (A0 1).bind fun v21=>
 (C2 v20 v21).bind fun v22=>
 (A0 0).bind fun v23=>
 (C2 v22 v23).bind fun v24=>
 (B1 v1 v24).bind fun v25=>
 (C2 v19 v25).bind fun v26=>
 (B1 v1 v26).bind fun v27=>
 (B1 v4 v27).bind fun v28=>
 (B1 v5 v28).bind fun v29=>
 (D9 v2 v2).bind fun v30=>
 (A0 2).bind fun v31=>
 (A0 1).bind fun v32=>
 (A0 0).bind fun v33=>
 (C2 v32 v33).bind fun v34=>
 (C2 v31 v34).bind fun v35=>
 (B1 v1 v35).bind fun v36=>
 (B1 v3 v36).bind fun v37=>
 (B1 v30 v37).bind fun v38=>
 (D9 v2 v2).bind fun v39=>
 (D9 v2 v39).bind fun v40=>
 (A0 2).bind fun v41=>
 (A0 3).bind fun v42=>
 (A0 0).bind fun v43=>
 (C2 v42 v43).bind fun v44=>
 (C2 v41 v44).bind fun v45=>
 (A0 1).bind fun v46=>
 (A0 0).bind fun v47=>
 (C2 v46 v47).bind fun v48=>
 (C2 v45 v48).bind fun v49=>
 (B1 v3 v49).bind fun v50=>
 (B1 v4 v50).bind fun v51=>
 (B1 v40 v51).bind fun v52=>
 (B1 v4 v52).bind fun v53=>
 bif a0 then
  (A0 0).bind fun v55=>
  (A0 1).bind fun v56=>
  (C2 v55 v56).bind fun v57=>
  (B1 v4 v57).bind fun v58=>
  (B1 v3 v58).bind fun v59=>
  (A0 0).bind fun v60=>
  (A0 1).bind fun v61=>
  (C2 v60 v61).bind fun v62=>
  (B1 v6 v62).bind fun v63=>
  (B1 v3 v63).bind fun v64=>
  (A0 2).bind fun v65=>
  (A0 2).bind fun v66=>
  (A0 1).bind fun v67=>
  (C2 v66 v67).bind fun v68=>
  (A0 0).bind fun v69=>
  (C2 v68 v69).bind fun v70=>
  (B1 v1 v70).bind fun v71=>
  (C2 v65 v71).bind fun v72=>
  (B1 v1 v72).bind fun v73=>
  (B1 v5 v73).bind fun v74=>
  (B1 v4 v74).bind fun v75=>
  some [v59,v64,v18,v75,v38,v53]
 else
  some [v11,v16,v18,v29,v38,v53]
def dX(a0:(List (List Int)))(k0:Nat)(s2:(List G5)×Int):Option (Ctl (Ctl (B3) ((List y4)) ((List y4))) ((List G5)×Int) ((List G5))):=
 bif (decide ((wr .i64 (s2.2+1))<(↑((get a0 k0).length):Int)))then
  chk (0≤s2.2∧s2.2<(↑((get a0 k0).length):Int)) <|
  chk (0≤(wr .i64 (s2.2+1))∧(wr .i64 (s2.2+1))<(↑((get a0 k0).length):Int)) <|
  eE (s2.1++[(G5.mk (get (get a0 k0) s2.2.toNat) (get (get a0 k0) ((wr .i64 (s2.2+1)).toNat)))]) fun c38=>
  chk (c38.length*16≤top∧c38.length≤top) <|
  some (.nxt (c38,(wr .i64 (s2.2+2))))
 else
  some (.brk s2.1)
def dY(s0:(List y4))(a0:(List (List Int)))(k0:Nat)(t2:(List G5)):Option (Ctl (B3) ((List y4)) ((List y4))):=
 chk ((s0.length+1)*32≤top∧s0.length+1≤top) <|
 some (.nxt (s0++[(y4.mk (get (get a0 k0) 0) t2)]))
def dZ(n:Nat)(a0:(List (List Int)))(k0:Nat)(s0:(List y4)):Option (Ctl (B3) ((List y4)) ((List y4))):=
 chk (0<(↑((get a0 k0).length):Int)) <|
 B5 (P4 (dX a0 k0) n ([],1)) (dY s0 a0 k0)
def ep(t0:(List y4)):Option (B3):=
 some (B3.mk t0)
def H8(n:Nat)(a0:(List (List Int))):Option (B3):=
 B5 (F2 (dZ n a0) a0.length []) (ep)
def C9(a0:Bs)(a1:w6):Option (x9):=
 some (x9.mk 1 a0 0 a1 [])
def X3(v3:w6)(j0:Int×Bs×Int×Bs×(List w6)×(List x9)):Option (x9):=
 (B1 v3 (x9.mk j0.1 j0.2.1 j0.2.2.1 (w6.mk j0.2.2.2.1 j0.2.2.2.2.1) j0.2.2.2.2.2)).bind fun v22=>
 (B1 v3 v22).bind fun v23=>
 some v23
def U5(a0:Bs)(a1:Bs)(a2:Bool):Option (x9):=
 (R5 [101]).bind fun v1=>
 (R5 [116]).bind fun v2=>
 (D9 v1 v2).bind fun v3=>
 (D9 v3 v2).bind fun v4=>
 (C9 a0 v4).bind fun v5=>
 (D9 v2 v2).bind fun v6=>
 (D9 v2 v6).bind fun v7=>
 (C9 a1 v7).bind fun v8=>
 (A0 2).bind fun v9=>
 (A0 0).bind fun v10=>
 (C2 v9 v10).bind fun v11=>
 (C2 v8 v11).bind fun v12=>
 (A0 1).bind fun v13=>
 (A0 0).bind fun v14=>
 (C2 v13 v14).bind fun v15=>
 (C2 v12 v15).bind fun v16=>
 (B1 v1 v16).bind fun v17=>
 (C2 v5 v17).bind fun v18=>
 bif a2 then
  (D9 v2 v2).bind fun v19=>
  (C9 [110,111,116] v19).bind fun v20=>
  (C2 v20 v18).bind fun v21=>
  X3 v3 (v21.kind,v21.name,v21.index,v21.type.base,v21.type.args,v21.args)
 else
  X3 v3 (v18.kind,v18.name,v18.index,v18.type.base,v18.type.args,v18.args)
def B8(n:Nat)(a0:Bs)(a1:Int)(a2:x9)(a3:(List (List Int)))(R2:(List x7))(RD:(List y8))(RE:(List x6))(l1:(List C5))(l2:(List y4)):Option ((List C5)):=
 (H8 n a3).bind fun v1=>
 eE (l1++[(C5.mk a0 v1 a1 a2)]) fun c3=>
 chk (c3.length*144≤top∧c3.length≤top) <|
 some c3
def eW(n:Nat):Option (x5):=
 (R5 [101]).bind fun v1=>
 (R5 [116]).bind fun v2=>
 (D9 v1 v2).bind fun v3=>
 (D9 v1 v3).bind fun v4=>
 (dA [[116,111,112],[114,117,108,101],[115,105,103,110],[110,117,109],[115,105,110,103],[112,108,117,114],[115],[110,112],[118,112],[110],[100,101,116],[105,118],[116,118],[97,100,118],[99,111,110,106]] [0,0,0,0,3,3,2,2,2,2,2,2,2,2,2] [(y8.mk [109,111,116,104,101,114] 1 2),(y8.mk [111,110,101] 1 2),(y8.mk [116,119,111] 1 2),(y8.mk [116,104,114,101,101] 1 2),(y8.mk [110,117,109] 2 3)]).bind fun v8=>
 (fM false).bind fun v9=>
 chk (0<(↑v9.length:Int)) <|
 (H8 n [[1,0,1,1,2,2,4],[6],[7,4,3],[3],[8,4,3]]).bind fun v17=>
 chk (1<(↑v9.length:Int)) <|
 (H8 n [[1,0,1,1,3,2,4],[7,4,2],[3],[10,4,2],[9,4,2]]).bind fun v25=>
 chk (2<(↑v9.length:Int)) <|
 (H8 n [[1,0,1,1,3],[8,4,2],[3],[11,4,2]]).bind fun v32=>
 chk (3<(↑v9.length:Int)) <|
 (H8 n [[1,0,1,1,3,2,4],[8,4,2],[3],[12,4,2],[7]]).bind fun v40=>
 chk (4<(↑v9.length:Int)) <|
 (H8 n [[1,0,1,1,3,2,4],[8,4,2],[3],[13],[8,4,2]]).bind fun v48=>
 chk (5<(↑v9.length:Int)) <|
 (H8 n [[1,0,1,1,3,2,4,3,5],[7,4,2],[5],[7],[14],[7]]).bind fun v57=>
 (U5 [97,108,108] [105,102] false).bind fun v59=>
 (B8 n [101,118,101,114,121] 1 v59 [[10,4,1],[4]] v8.types v8.C1 [(x6.mk [115] v17 2 0 (get v9 0)),(x6.mk [110,112] v25 2 1 (get v9 1)),(x6.mk [118,112,45,105,118] v32 1 0 (get v9 2)),(x6.mk [118,112,45,116,118] v40 2 2 (get v9 3)),(x6.mk [118,112,45,110,111,116] v48 2 3 (get v9 4)),(x6.mk [110,112,45,97,110,100] v57 3 4 (get v9 5))] [] []).bind fun v63=>
 (U5 [115,111,109,101] [97,110,100] false).bind fun v64=>
 (B8 n [97] 0 v64 [[10,4,1],[4]] v8.types v8.C1 [(x6.mk [115] v17 2 0 (get v9 0)),(x6.mk [110,112] v25 2 1 (get v9 1)),(x6.mk [118,112,45,105,118] v32 1 0 (get v9 2)),(x6.mk [118,112,45,116,118] v40 2 2 (get v9 3)),(x6.mk [118,112,45,110,111,116] v48 2 3 (get v9 4)),(x6.mk [110,112,45,97,110,100] v57 3 4 (get v9 5))] v63 []).bind fun v68=>
 (U5 [115,111,109,101] [97,110,100] true).bind fun v69=>
 (B8 n [110,111] 2 v69 [[10]] v8.types v8.C1 [(x6.mk [115] v17 2 0 (get v9 0)),(x6.mk [110,112] v25 2 1 (get v9 1)),(x6.mk [118,112,45,105,118] v32 1 0 (get v9 2)),(x6.mk [118,112,45,116,118] v40 2 2 (get v9 3)),(x6.mk [118,112,45,110,111,116] v48 2 3 (get v9 4)),(x6.mk [110,112,45,97,110,100] v57 3 4 (get v9 5))] v68 []).bind fun v72=>
 (C9 [100,111,103] v3).bind fun v73=>
 (B8 n [100,111,103] 0 v73 [[9,4,1],[4]] v8.types v8.C1 [(x6.mk [115] v17 2 0 (get v9 0)),(x6.mk [110,112] v25 2 1 (get v9 1)),(x6.mk [118,112,45,105,118] v32 1 0 (get v9 2)),(x6.mk [118,112,45,116,118] v40 2 2 (get v9 3)),(x6.mk [118,112,45,110,111,116] v48 2 3 (get v9 4)),(x6.mk [110,112,45,97,110,100] v57 3 4 (get v9 5))] v72 []).bind fun v77=>
 (C9 [100,111,103] v3).bind fun v78=>
 (B8 n [100,111,103,115] 0 v78 [[9,4,1],[5]] v8.types v8.C1 [(x6.mk [115] v17 2 0 (get v9 0)),(x6.mk [110,112] v25 2 1 (get v9 1)),(x6.mk [118,112,45,105,118] v32 1 0 (get v9 2)),(x6.mk [118,112,45,116,118] v40 2 2 (get v9 3)),(x6.mk [118,112,45,110,111,116] v48 2 3 (get v9 4)),(x6.mk [110,112,45,97,110,100] v57 3 4 (get v9 5))] v77 []).bind fun v82=>
 (C9 [99,97,116] v3).bind fun v83=>
 (B8 n [99,97,116] 0 v83 [[9,4,1],[4]] v8.types v8.C1 [(x6.mk [115] v17 2 0 (get v9 0)),(x6.mk [110,112] v25 2 1 (get v9 1)),(x6.mk [118,112,45,105,118] v32 1 0 (get v9 2)),(x6.mk [118,112,45,116,118] v40 2 2 (get v9 3)),(x6.mk [118,112,45,110,111,116] v48 2 3 (get v9 4)),(x6.mk [110,112,45,97,110,100] v57 3 4 (get v9 5))] v82 []).bind fun v87=>
 (C9 [99,97,116] v3).bind fun v88=>
 (B8 n [99,97,116,115] 0 v88 [[9,4,1],[5]] v8.types v8.C1 [(x6.mk [115] v17 2 0 (get v9 0)),(x6.mk [110,112] v25 2 1 (get v9 1)),(x6.mk [118,112,45,105,118] v32 1 0 (get v9 2)),(x6.mk [118,112,45,116,118] v40 2 2 (get v9 3)),(x6.mk [118,112,45,110,111,116] v48 2 3 (get v9 4)),(x6.mk [110,112,45,97,110,100] v57 3 4 (get v9 5))] v87 []).bind fun v92=>
 (C9 [102,105,115,104] v3).bind fun v93=>
 (B8 n [102,105,115,104] 1 v93 [[9,4,1],[4]] v8.types v8.C1 [(x6.mk [115] v17 2 0 (get v9 0)),(x6.mk [110,112] v25 2 1 (get v9 1)),(x6.mk [118,112,45,105,118] v32 1 0 (get v9 2)),(x6.mk [118,112,45,116,118] v40 2 2 (get v9 3)),(x6.mk [118,112,45,110,111,116] v48 2 3 (get v9 4)),(x6.mk [110,112,45,97,110,100] v57 3 4 (get v9 5))] v92 []).bind fun v97=>
 (C9 [102,105,115,104] v3).bind fun v98=>
 (B8 n [102,105,115,104] 2 v98 [[9,4,1],[5]] v8.types v8.C1 [(x6.mk [115] v17 2 0 (get v9 0)),(x6.mk [110,112] v25 2 1 (get v9 1)),(x6.mk [118,112,45,105,118] v32 1 0 (get v9 2)),(x6.mk [118,112,45,116,118] v40 2 2 (get v9 3)),(x6.mk [118,112,45,110,111,116] v48 2 3 (get v9 4)),(x6.mk [110,112,45,97,110,100] v57 3 4 (get v9 5))] v97 []).bind fun v102=>
 (C9 [98,97,114,107] v3).bind fun v103=>
 (B8 n [98,97,114,107,115] 0 v103 [[11,4,1],[4]] v8.types v8.C1 [(x6.mk [115] v17 2 0 (get v9 0)),(x6.mk [110,112] v25 2 1 (get v9 1)),(x6.mk [118,112,45,105,118] v32 1 0 (get v9 2)),(x6.mk [118,112,45,116,118] v40 2 2 (get v9 3)),(x6.mk [118,112,45,110,111,116] v48 2 3 (get v9 4)),(x6.mk [110,112,45,97,110,100] v57 3 4 (get v9 5))] v102 []).bind fun v107=>
 (C9 [98,97,114,107] v3).bind fun v108=>
 (B8 n [98,97,114,107] 0 v108 [[11,4,1],[5]] v8.types v8.C1 [(x6.mk [115] v17 2 0 (get v9 0)),(x6.mk [110,112] v25 2 1 (get v9 1)),(x6.mk [118,112,45,105,118] v32 1 0 (get v9 2)),(x6.mk [118,112,45,116,118] v40 2 2 (get v9 3)),(x6.mk [118,112,45,110,111,116] v48 2 3 (get v9 4)),(x6.mk [110,112,45,97,110,100] v57 3 4 (get v9 5))] v107 []).bind fun v112=>
 (C9 [115,108,101,101,112] v3).bind fun v113=>
 (B8 n [115,108,101,101,112,115] 0 v113 [[11,4,1],[4]] v8.types v8.C1 [(x6.mk [115] v17 2 0 (get v9 0)),(x6.mk [110,112] v25 2 1 (get v9 1)),(x6.mk [118,112,45,105,118] v32 1 0 (get v9 2)),(x6.mk [118,112,45,116,118] v40 2 2 (get v9 3)),(x6.mk [118,112,45,110,111,116] v48 2 3 (get v9 4)),(x6.mk [110,112,45,97,110,100] v57 3 4 (get v9 5))] v112 []).bind fun v117=>
 (C9 [115,108,101,101,112] v3).bind fun v118=>
 (B8 n [115,108,101,101,112] 0 v118 [[11,4,1],[5]] v8.types v8.C1 [(x6.mk [115] v17 2 0 (get v9 0)),(x6.mk [110,112] v25 2 1 (get v9 1)),(x6.mk [118,112,45,105,118] v32 1 0 (get v9 2)),(x6.mk [118,112,45,116,118] v40 2 2 (get v9 3)),(x6.mk [118,112,45,110,111,116] v48 2 3 (get v9 4)),(x6.mk [110,112,45,97,110,100] v57 3 4 (get v9 5))] v117 []).bind fun v122=>
 (C9 [99,104,97,115,101] v4).bind fun v123=>
 (B8 n [99,104,97,115,101,115] 0 v123 [[12,4,1],[4]] v8.types v8.C1 [(x6.mk [115] v17 2 0 (get v9 0)),(x6.mk [110,112] v25 2 1 (get v9 1)),(x6.mk [118,112,45,105,118] v32 1 0 (get v9 2)),(x6.mk [118,112,45,116,118] v40 2 2 (get v9 3)),(x6.mk [118,112,45,110,111,116] v48 2 3 (get v9 4)),(x6.mk [110,112,45,97,110,100] v57 3 4 (get v9 5))] v122 []).bind fun v127=>
 (C9 [99,104,97,115,101] v4).bind fun v128=>
 (B8 n [99,104,97,115,101] 0 v128 [[12,4,1],[5]] v8.types v8.C1 [(x6.mk [115] v17 2 0 (get v9 0)),(x6.mk [110,112] v25 2 1 (get v9 1)),(x6.mk [118,112,45,105,118] v32 1 0 (get v9 2)),(x6.mk [118,112,45,116,118] v40 2 2 (get v9 3)),(x6.mk [118,112,45,110,111,116] v48 2 3 (get v9 4)),(x6.mk [110,112,45,97,110,100] v57 3 4 (get v9 5))] v127 []).bind fun v132=>
 (C9 [115,101,101] v4).bind fun v133=>
 (B8 n [115,101,101,115] 1 v133 [[12,4,1],[4]] v8.types v8.C1 [(x6.mk [115] v17 2 0 (get v9 0)),(x6.mk [110,112] v25 2 1 (get v9 1)),(x6.mk [118,112,45,105,118] v32 1 0 (get v9 2)),(x6.mk [118,112,45,116,118] v40 2 2 (get v9 3)),(x6.mk [118,112,45,110,111,116] v48 2 3 (get v9 4)),(x6.mk [110,112,45,97,110,100] v57 3 4 (get v9 5))] v132 []).bind fun v137=>
 (C9 [115,101,101] v4).bind fun v138=>
 (B8 n [115,101,101] 1 v138 [[12,4,1],[5]] v8.types v8.C1 [(x6.mk [115] v17 2 0 (get v9 0)),(x6.mk [110,112] v25 2 1 (get v9 1)),(x6.mk [118,112,45,105,118] v32 1 0 (get v9 2)),(x6.mk [118,112,45,116,118] v40 2 2 (get v9 3)),(x6.mk [118,112,45,110,111,116] v48 2 3 (get v9 4)),(x6.mk [110,112,45,97,110,100] v57 3 4 (get v9 5))] v137 []).bind fun v142=>
 (D9 v2 v2).bind fun v143=>
 (C9 [110,111,116] v143).bind fun v144=>
 (B8 n [110,111,116] 0 v144 [[13]] v8.types v8.C1 [(x6.mk [115] v17 2 0 (get v9 0)),(x6.mk [110,112] v25 2 1 (get v9 1)),(x6.mk [118,112,45,105,118] v32 1 0 (get v9 2)),(x6.mk [118,112,45,116,118] v40 2 2 (get v9 3)),(x6.mk [118,112,45,110,111,116] v48 2 3 (get v9 4)),(x6.mk [110,112,45,97,110,100] v57 3 4 (get v9 5))] v142 []).bind fun v147=>
 (D9 v2 v2).bind fun v148=>
 (D9 v2 v148).bind fun v149=>
 (C9 [97,110,100] v149).bind fun v150=>
 (B8 n [97,110,100] 0 v150 [[14]] v8.types v8.C1 [(x6.mk [115] v17 2 0 (get v9 0)),(x6.mk [110,112] v25 2 1 (get v9 1)),(x6.mk [118,112,45,105,118] v32 1 0 (get v9 2)),(x6.mk [118,112,45,116,118] v40 2 2 (get v9 3)),(x6.mk [118,112,45,110,111,116] v48 2 3 (get v9 4)),(x6.mk [110,112,45,97,110,100] v57 3 4 (get v9 5))] v147 []).bind fun v153=>
 (A0 0).bind fun v154=>
 (C9 [114,101,120] v1).bind fun v155=>
 (C2 v154 v155).bind fun v156=>
 (B1 v3 v156).bind fun v157=>
 (B8 n [114,101,120] 0 v157 [[7,4,1],[4]] v8.types v8.C1 [(x6.mk [115] v17 2 0 (get v9 0)),(x6.mk [110,112] v25 2 1 (get v9 1)),(x6.mk [118,112,45,105,118] v32 1 0 (get v9 2)),(x6.mk [118,112,45,116,118] v40 2 2 (get v9 3)),(x6.mk [118,112,45,110,111,116] v48 2 3 (get v9 4)),(x6.mk [110,112,45,97,110,100] v57 3 4 (get v9 5))] v153 []).bind fun v161=>
 (A0 0).bind fun v162=>
 (C9 [109,105,97] v1).bind fun v163=>
 (C2 v162 v163).bind fun v164=>
 (B1 v3 v164).bind fun v165=>
 (B8 n [109,105,97] 0 v165 [[7,4,1],[4]] v8.types v8.C1 [(x6.mk [115] v17 2 0 (get v9 0)),(x6.mk [110,112] v25 2 1 (get v9 1)),(x6.mk [118,112,45,105,118] v32 1 0 (get v9 2)),(x6.mk [118,112,45,116,118] v40 2 2 (get v9 3)),(x6.mk [118,112,45,110,111,116] v48 2 3 (get v9 4)),(x6.mk [110,112,45,97,110,100] v57 3 4 (get v9 5))] v161 []).bind fun v169=>
 (H8 n [[6]]).bind fun v172=>
 some (x5.mk v8 [(x6.mk [115] v17 2 0 (get v9 0)),(x6.mk [110,112] v25 2 1 (get v9 1)),(x6.mk [118,112,45,105,118] v32 1 0 (get v9 2)),(x6.mk [118,112,45,116,118] v40 2 2 (get v9 3)),(x6.mk [118,112,45,110,111,116] v48 2 3 (get v9 4)),(x6.mk [110,112,45,97,110,100] v57 3 4 (get v9 5))] v169 v172)
def dR:Option ((List w8)):=
 some [(w8.mk (-1) 7 []),(w8.mk (-1) 8 [])]
def O7(a0:Int)(a1:Int):Option (w9):=
 some (w9.mk a0 a1)
def qu(a0:Bs)(k0:Nat)(s0:Unit):Option (Ctl (Bool) (Unit) (Unit)):=
 bif (!(bif (bif (bif (bif (decide (97≤(B0 a0 (↑k0:Int))))then(decide ((B0 a0 (↑k0:Int))≤122))else false)then true else(bif (decide (48≤(B0 a0 (↑k0:Int))))then(decide ((B0 a0 (↑k0:Int))≤57))else false))then true else(decide ((B0 a0 (↑k0:Int))=95)))then true else(decide ((B0 a0 (↑k0:Int))=45))))then
  some (.ret false)
 else
  some (.nxt ())
def qv(t0:Unit):Option (Bool):=
 some true
def termName(a0:Bs):Option (Bool):=
 chk (iQ (!(bif (decide ((↑a0.length:Int)=0))then true else(decide (30<(↑a0.length:Int))))) (0<(↑a0.length:Int))) <|
 chk (iQ (!(bif (bif (decide ((↑a0.length:Int)=0))then true else(decide (30<(↑a0.length:Int))))then true else(decide ((B0 a0 0)<97)))) (0<(↑a0.length:Int))) <|
 bif (bif (bif (bif (decide ((↑a0.length:Int)=0))then true else(decide (30<(↑a0.length:Int))))then true else(decide ((B0 a0 0)<97)))then true else(decide (122<(B0 a0 0))))then
  some false
 else
  chk (a0.length≤9223372036854775807) <|
  B5 (F2 (qu a0) a0.length ()) (qv)
def iX(a0:(List x7))(k0:Nat)(k2:Nat)(s2:Int):Option (Ctl (Ctl (w9) ((List (Bs×Int))) ((List (Bs×Int)))) (Int) (Int)):=
 bif (bif (decide ((get ((get a0 k0).parents) k2)<0))then true else(decide ((↑k0:Int)≤(get ((get a0 k0).parents) k2))))then
  (O7 3 (↑k0:Int)).bind fun v20=>
  some (.ret (.ret v20))
 else
  bif (decide ((get ((get a0 k0).parents) k2)≤s2))then
   (O7 13 (↑k0:Int)).bind fun v21=>
   some (.ret (.ret v21))
  else
   some (.nxt (get ((get a0 k0).parents) k2))
def iY(c15:(List (Bs×Int)))(t2:Int):Option (Ctl (w9) ((List (Bs×Int))) ((List (Bs×Int)))):=
 some (.nxt c15)
def iW(a0:(List x7))(k0:Nat)(s0:(List (Bs×Int))):Option (Ctl (w9) ((List (Bs×Int))) ((List (Bs×Int)))):=
 (termName ((get a0 k0).name)).bind fun v12=>
 bif (!v12)then
  (O7 10 (↑k0:Int)).bind fun v13=>
  some (.ret v13)
 else
  bif (assoc ((get a0 k0).name) s0).isSome then
   (O7 7 (↑k0:Int)).bind fun v14=>
   some (.ret v14)
  else
   eE (Q6 ((get a0 k0).name) (↑k0:Int) s0) fun c15=>
   bif (!decide ((decide ((↑k0:Int)=0))=(decide ((↑(((get a0 k0).parents).length):Int)=0))))then
    (O7 5 (↑k0:Int)).bind fun v17=>
    some (.ret v17)
   else
    B5 (F2 (iX a0 k0) (((get a0 k0).parents).length) (-1)) (iY c15)
def lF(t0:(List (Bs×Int))):Option (w9):=
 some (w9.mk 0 0)
def gG(a0:(List x7)):Option (w9):=
 bif (bif (decide ((↑a0.length:Int)=0))then true else(decide (60<(↑a0.length:Int))))then
  (O7 2 (-1)).bind fun v1=>
  some v1
 else
  B5 (F2 (iW a0) a0.length []) (lF)
def gZ(k0:Nat)(a0:(List x7))(k3:Nat)(s3:(List Int)):Option (Ctl (Ctl (B2) ((List Int)×(List Int)) ((List Int)×(List Int))) ((List Int)) ((List Int))):=
 chk ((↑k0:Int)<(↑s3.length:Int)) <|
 chk (0≤(get ((get a0 k0).parents) k3)∧(get ((get a0 k0).parents) k3)<(↑s3.length:Int)) <|
 eE (s3.set k0 (cu .or .u64 (get s3 k0) (get s3 ((get ((get a0 k0).parents) k3).toNat)))) fun c86=>
 some (.nxt c86)
def hJ(k0:Nat)(t3:(List Int))(k4:Nat)(s4:(List Int)):Option (Ctl (Ctl (B2) ((List Int)×(List Int)) ((List Int)×(List Int))) ((List Int)) ((List Int))):=
 chk ((↑k0:Int)<(↑t3.length:Int)) <|
 chk (0≤(↑k4:Int)) <|
 bif (decide ((cu .and .u64 (Int.fdiv (get t3 k0) (2^(min k4 64))) 1)=1))then
  chk ((↑k4:Int)<(↑s4.length:Int)) <|
  eE (s4.set k4 (cu .or .u64 (get s4 k4) (wr .u64 (1*2^(min k0 64))))) fun c110=>
  some (.nxt c110)
 else
  some (.nxt s4)
def hY(t3:(List Int))(t4:(List Int)):Option (Ctl (B2) ((List Int)×(List Int)) ((List Int)×(List Int))):=
 some (.nxt (t3,t4))
def hC(k0:Nat)(a0:(List x7))(s0:(List Int)×(List Int))(t3:(List Int)):Option (Ctl (B2) ((List Int)×(List Int)) ((List Int)×(List Int))):=
 B5 (F2 (hJ k0 t3) a0.length s0.2) (hY t3)
def gY(a0:(List x7))(k0:Nat)(s0:(List Int)×(List Int)):Option (Ctl (B2) ((List Int)×(List Int)) ((List Int)×(List Int))):=
 chk (0≤(↑k0:Int)) <|
 chk ((↑k0:Int)<(↑s0.1.length:Int)) <|
 eE (s0.1.set k0 (wr .u64 (1*2^(min k0 64)))) fun c62=>
 B5 (F2 (gZ k0 a0) (((get a0 k0).parents).length) c62) (hC k0 a0 s0)
def ig(t0:(List Int)×(List Int)):Option (B2):=
 some (B2.mk t0.1 t0.2)
def fH(a0:(List x7)):Option (B2):=
 chk (a0.length*8≤top∧a0.length≤top) <|
 B5 (F2 (gY a0) a0.length ((List.replicate a0.length (default:Int)),(List.replicate a0.length (default:Int)))) (ig)
def Z8(a0:Int):Option (Int):=
 bif (decide (a0=0))then
  some 64
 else
  chk (0≤(Int.fdiv (wr .u64 ((cu .and .u64 a0 (wr .u64 (0-a0)))*285870213051353865)) (2^(min 58 64)))∧(Int.fdiv (wr .u64 ((cu .and .u64 a0 (wr .u64 (0-a0)))*285870213051353865)) (2^(min 58 64)))<64) <|
  some (wr .i64 (get KB ((Int.fdiv (wr .u64 ((cu .and .u64 a0 (wr .u64 (0-a0)))*285870213051353865)) (2^(min 58 64))).toNat)))
def eL(a0:B2)(a1:Int)(a2:Int):Option (Int×Bool×Bool):=
 chk (0≤a1∧a1<(↑a0.down.length:Int)) <|
 chk (0≤a2∧a2<(↑a0.down.length:Int)) <|
 bif (decide ((cu .and .u64 (get a0.down a1.toNat) (get a0.down a2.toNat))=0))then
  some (0,false,false)
 else
  (Z8 (cu .and .u64 (get a0.down a1.toNat) (get a0.down a2.toNat))).bind fun v5=>
  chk (0≤v5∧v5<(↑a0.down.length:Int)) <|
  bif (!decide ((get a0.down v5.toNat)=(cu .and .u64 (get a0.down a1.toNat) (get a0.down a2.toNat))))then
   some (0,false,true)
  else
   some (v5,true,false)
def fC(v3:B2)(k0:Nat)(k1:Nat)(s1:Unit):Option (Ctl (Ctl (w9) (Unit) (Unit)) (Unit) (Unit)):=
 (eL v3 (↑k1:Int) (↑k0:Int)).bind fun v6=>
 bif v6.2.2 then
  (O7 16 (↑k0:Int)).bind fun v7=>
  some (.ret (.ret v7))
 else
  some (.nxt ())
def fD(t1:Unit):Option (Ctl (w9) (Unit) (Unit)):=
 some (.nxt ())
def fB(v3:B2)(k0:Nat)(s0:Unit):Option (Ctl (w9) (Unit) (Unit)):=
 chk (k0≤9223372036854775807) <|
 B5 (F2 (fC v3 k0) k0 ()) (fD)
def fA(a0:y6)(k2:Nat)(s2:(List (Bs×Int))):Option (Ctl (w9) ((List (Bs×Int))) ((List (Bs×Int)))):=
 (termName ((get a0.C1 k2).name)).bind fun v14=>
 bif (!v14)then
  (O7 10 (↑k2:Int)).bind fun v15=>
  some (.ret v15)
 else
  bif (assoc ((get a0.C1 k2).name) s2).isSome then
   (O7 7 (↑k2:Int)).bind fun v16=>
   some (.ret v16)
  else
   eE (Q6 ((get a0.C1 k2).name) (↑k2:Int) s2) fun c17=>
   bif (bif (bif (bif (decide (((get a0.C1 k2).of_)<0))then true else(decide ((↑a0.types.length:Int)≤((get a0.C1 k2).of_))))then true else(decide (((get a0.C1 k2).value)<0)))then true else(decide ((↑a0.types.length:Int)≤((get a0.C1 k2).value))))then
    (O7 3 (↑k2:Int)).bind fun v19=>
    some (.ret v19)
   else
    some (.nxt c17)
def jo(t2:(List (Bs×Int))):Option (w9):=
 some (w9.mk 0 0)
def cA(a0:y6)(t0:Unit):Option (w9):=
 B5 (F2 (fA a0) a0.C1.length []) (jo)
def fI(a0:y6):Option (w9):=
 bif (bif (bif (decide ((↑a0.types.length:Int)=0))then true else(decide (60<(↑a0.types.length:Int))))then true else(decide (40<(↑a0.C1.length:Int))))then
  (O7 2 (-1)).bind fun v1=>
  some v1
 else
  (gG a0.types).bind fun v2=>
  bif (!decide (v2.code=0))then
   some v2
  else
   (fH a0.types).bind fun v3=>
   chk (a0.types.length≤9223372036854775807) <|
   B5 (F2 (fB v3) a0.types.length ()) (cA a0)
def cR(a0:Int)(a1:Int):Option (w9):=
 some (w9.mk a0 a1)
def iV(a0:Int)(a1:Int):Option (w9):=
 some (w9.mk a0 a1)
def mV(a1:B3)(k0:Nat)(a0:y6)(k2:Nat)(s2:Int):Option (Ctl (Ctl (w9) (Unit) (Unit)) (Int) (Int)):=
 bif (bif (bif (bif (decide (((get ((get a1.nodes k0).links) k2).kV)<0))then true else(decide ((↑a0.C1.length:Int)≤((get ((get a1.nodes k0).links) k2).kV))))then true else(decide (((get ((get a1.nodes k0).links) k2).to_)<0)))then true else(decide ((↑a1.nodes.length:Int)≤((get ((get a1.nodes k0).links) k2).to_))))then
  (iV 3 (↑k0:Int)).bind fun v10=>
  some (.ret (.ret v10))
 else
  bif (decide (((get ((get a1.nodes k0).links) k2).kV)≤s2))then
   (iV 13 (↑k0:Int)).bind fun v11=>
   some (.ret (.ret v11))
  else
   some (.nxt ((get ((get a1.nodes k0).links) k2).kV))
def mW(t2:Int):Option (Ctl (w9) (Unit) (Unit)):=
 some (.nxt ())
def mU(a1:B3)(a0:y6)(k0:Nat)(s0:Unit):Option (Ctl (w9) (Unit) (Unit)):=
 bif (bif (decide (((get a1.nodes k0).type)<0))then true else(decide ((↑a0.types.length:Int)≤((get a1.nodes k0).type))))then
  (iV 3 (↑k0:Int)).bind fun v7=>
  some (.ret v7)
 else
  B5 (F2 (mV a1 k0 a0) (((get a1.nodes k0).links).length) (-1)) (mW)
def qE(t0:Unit):Option (w9):=
 some (w9.mk 0 0)
def pQ(a0:y6)(a1:B3):Option (w9):=
 bif (bif (decide ((↑a1.nodes.length:Int)=0))then true else(decide (60<(↑a1.nodes.length:Int))))then
  (iV 2 (-2)).bind fun v1=>
  some v1
 else
  B5 (F2 (mU a1 a0) a1.nodes.length ()) (qE)
def cU(a0:B2)(a1:Int)(a2:Int):Option (Bool):=
 chk (0≤a1∧a1<(↑a0.up.length:Int)) <|
 chk (0≤a2) <|
 some (decide ((cu .and .u64 (Int.fdiv (get a0.up a1.toNat) (2^(min a2.toNat 64))) 1)=1))
def dH(a1:Bool)(a0:(List Bool))(k0:Nat)(s0:Unit):Option (Ctl (Int) (Unit) (Unit)):=
 bif (decide (a1=(get a0 k0)))then
  some (.ret (↑k0:Int))
 else
  some (.nxt ())
def gQ(t0:Unit):Option (Int):=
 some (-1)
def P6(a0:(List Bool))(a1:Bool):Option (Int):=
 B5 (F2 (dH a1 a0) a0.length ()) (gQ)
def jc(a0:B3)(s0:(List Bool)×(List Int)×Nat)(k2:Nat)(s2:(List Bool)×(List Int)×Nat):Option (Ctl (Ctl (Int) ((List Bool)×(List Int)×Nat) ((List Bool))) ((List Bool)×(List Int)×Nat) ((List Bool)×(List Int)×Nat)):=
 chk (0≤(get ((get a0.nodes ((get s0.2.1 ((wr .i64 ((↑s0.2.2:Int)-1)).toNat)).toNat)).links) k2).to_∧(get ((get a0.nodes ((get s0.2.1 ((wr .i64 ((↑s0.2.2:Int)-1)).toNat)).toNat)).links) k2).to_<(↑s2.1.length:Int)) <|
 bif (!(get s2.1 (((get ((get a0.nodes ((get s0.2.1 ((wr .i64 ((↑s0.2.2:Int)-1)).toNat)).toNat)).links) k2).to_).toNat)))then
  eE (s2.1.set (((get ((get a0.nodes ((get s0.2.1 ((wr .i64 ((↑s0.2.2:Int)-1)).toNat)).toNat)).links) k2).to_).toNat) true) fun c79=>
  chk (s2.2.2≤s2.2.1.length) <|
  eE ((s2.2.1.take s2.2.2)++[(get ((get a0.nodes ((get s0.2.1 ((wr .i64 ((↑s0.2.2:Int)-1)).toNat)).toNat)).links) k2).to_]) fun c84=>
  chk (c84.length*8≤top∧c84.length≤top) <|
  some (.nxt (c79,c84,c84.length))
 else
  some (.nxt (s2.1,s2.2.1,s2.2.2))
def jd(t2:(List Bool)×(List Int)×Nat):Option (Ctl (Int) ((List Bool)×(List Int)×Nat) ((List Bool))):=
 some (.nxt (t2.1,t2.2.1,t2.2.2))
def iZ(a0:B3)(s0:(List Bool)×(List Int)×Nat):Option (Ctl (Int) ((List Bool)×(List Int)×Nat) ((List Bool))):=
 bif (decide (0<(↑s0.2.2:Int)))then
  chk (s0.2.2≤s0.2.1.length) <|
  chk (0≤(wr .i64 ((↑s0.2.2:Int)-1))∧(wr .i64 ((↑s0.2.2:Int)-1))<(↑s0.2.2:Int)) <|
  chk ((wr .i64 ((↑s0.2.2:Int)-1)).toNat≤s0.2.2) <|
  chk (0≤(get s0.2.1 ((wr .i64 ((↑s0.2.2:Int)-1)).toNat))∧(get s0.2.1 ((wr .i64 ((↑s0.2.2:Int)-1)).toNat))<(↑a0.nodes.length:Int)) <|
  B5 (F2 (jc a0 s0) (((get a0.nodes ((get s0.2.1 ((wr .i64 ((↑s0.2.2:Int)-1)).toNat)).toNat)).links).length) (s0.1,s0.2.1,(wr .i64 ((↑s0.2.2:Int)-1)).toNat)) (jd)
 else
  some (.brk s0.1)
def je(t0:(List Bool)):Option (Int):=
 (P6 t0 false).bind fun v89=>
 some v89
def gH(n:Nat)(a0:B3):Option (Int):=
 chk (a0.nodes.length*1≤top∧a0.nodes.length≤top) <|
 chk (0<(↑a0.nodes.length:Int)) <|
 eE ((List.replicate a0.nodes.length (default:Bool)).set 0 true) fun c7=>
 B5 (P4 (iZ a0) n (c7,[0],1)) (je)
def lJ(a2:B3)(k0:Nat)(a0:y6)(a1:B2)(k2:Nat)(s2:Unit):Option (Ctl (Ctl (w9) (Unit) (Unit)) (Unit) (Unit)):=
 chk (0≤(get ((get a2.nodes k0).links) k2).kV∧(get ((get a2.nodes k0).links) k2).kV<(↑a0.C1.length:Int)) <|
 (cU a1 ((get a2.nodes k0).type) ((get a0.C1 (((get ((get a2.nodes k0).links) k2).kV).toNat)).of_)).bind fun v28=>
 chk (iQ (!(!v28)) (0≤(get ((get a2.nodes k0).links) k2).to_)∧iQ (!(!v28)) ((get ((get a2.nodes k0).links) k2).to_<(↑a2.nodes.length:Int))) <|
 (gd (!(!v28)) (cU a1 ((get a2.nodes (((get ((get a2.nodes k0).links) k2).to_).toNat)).type) ((get a0.C1 (((get ((get a2.nodes k0).links) k2).kV).toNat)).value)) default).bind fun v32=>
 bif (bif (!v28)then true else(!v32))then
  (iV 12 (↑k0:Int)).bind fun v33=>
  some (.ret (.ret v33))
 else
  some (.nxt ())
def lK(t2:Unit):Option (Ctl (w9) (Unit) (Unit)):=
 some (.nxt ())
def lI(a2:B3)(a0:y6)(a1:B2)(k0:Nat)(s0:Unit):Option (Ctl (w9) (Unit) (Unit)):=
 B5 (F2 (lJ a2 k0 a0 a1) (((get a2.nodes k0).links).length) ()) (lK)
def lM(n:Nat)(a2:B3)(t0:Unit):Option (w9):=
 (gH n a2).bind fun v34=>
 bif (decide (0≤v34))then
  (iV 5 v34).bind fun v35=>
  some v35
 else
  some (w9.mk 0 0)
def jP(n:Nat)(a0:y6)(a1:B2)(a2:B3):Option (w9):=
 (pQ a0 a2).bind fun v1=>
 bif (!decide (v1.code=0))then
  some v1
 else
  B5 (F2 (lI a2 a0 a1) a2.nodes.length ()) (lM n a2)
def kj(a0:G5)(a1:Int):Option (Int):=
 (T7 a0.kV a1).bind fun v1=>
 some v1
def J5(a0:(List G5))(a1:Int)(s0:Int×Int):Option (Ctl (Int×Bool) (Int×Int) (Int)):=
 bif (decide (s0.2<s0.1))then
  chk (0≤(wr .i64 (Int.fdiv (wr .u64 (wr .i64 (s0.2+s0.1))) (2^(min 1 64))))∧(wr .i64 (Int.fdiv (wr .u64 (wr .i64 (s0.2+s0.1))) (2^(min 1 64))))<(↑a0.length:Int)) <|
  (kj (get a0 ((wr .i64 (Int.fdiv (wr .u64 (wr .i64 (s0.2+s0.1))) (2^(min 1 64)))).toNat)) a1).bind fun v6=>
  bif (decide (v6<0))then
   some (.nxt (s0.1,(wr .i64 ((wr .i64 (Int.fdiv (wr .u64 (wr .i64 (s0.2+s0.1))) (2^(min 1 64))))+1))))
  else
   some (.nxt ((wr .i64 (Int.fdiv (wr .u64 (wr .i64 (s0.2+s0.1))) (2^(min 1 64)))),s0.2))
 else
  some (.brk s0.2)
def J6(a0:(List G5))(a1:Int)(t0:Int):Option (Int×Bool):=
 chk (iQ (decide (t0<(↑a0.length:Int))) (0≤t0)∧iQ (decide (t0<(↑a0.length:Int))) (t0<(↑a0.length:Int))) <|
 (gd (decide (t0<(↑a0.length:Int))) (kj (get a0 t0.toNat) a1) default).bind fun v10=>
 some (t0,(bif (decide (t0<(↑a0.length:Int)))then(decide (v10=0))else false))
def I0(n:Nat)(a0:(List G5))(a1:Int):Option (Int×Bool):=
 B5 (P4 (J5 a0 a1) n ((↑a0.length:Int),0)) (J6 a0 a1)
def nM(n:Nat)(a0:B3)(a1:Int)(a2:Int):Option (Int):=
 chk (0≤a1∧a1<(↑a0.nodes.length:Int)) <|
 (I0 n ((get a0.nodes a1.toNat).links) a2).bind fun v3=>
 bif (!v3.2)then
  some (-1)
 else
  chk (0≤v3.1∧v3.1<(↑(((get a0.nodes a1.toNat).links).length):Int)) <|
  some ((get ((get a0.nodes a1.toNat).links) v3.1.toNat).to_)
def bY(n:Nat)(a0:B3)(a1:Int)(k0:Nat)(s0:Unit):Option (Ctl (Bool) (Unit) (Unit)):=
 (nM n a0 0 (↑k0:Int)).bind fun v1=>
 bif (!decide ((decide (0≤v1))=(decide ((↑k0:Int)≤a1))))then
  some (.ret false)
 else
  some (.nxt ())
def jG(t0:Unit):Option (Bool):=
 some true
def fV(n:Nat)(a0:B3)(a1:Int):Option (Bool):=
 B5 (F2 (bY n a0 a1) 4 ()) (jG)
def Q8(a0:Int)(R2:Int):Option (w9):=
 some (w9.mk a0 R2)
def iq(self:(w6)→(Int)→(Int)→Option (Int×Int))(a0:w6)(a1:Int)(k0:Nat)(s0:Int):Option (Ctl (Int×Int) (Int) (Int)):=
 (self (get a0.args k0) (wr .i64 (a1+1)) s0).bind fun v2=>
 bif (!decide (v2.1=0))then
  some (.ret (v2.1,v2.2))
 else
  some (.nxt v2.2)
def iu(t0:Int):Option (Int×Int):=
 some (0,t0)
def cZ:Nat→(w6)→(Int)→(Int)→Option (Int×Int)
 |0,_,_,_=>none
 |n+1,a0,a1,R2=>
  bif (bif (decide (200<(wr .i64 (R2+1))))then true else(decide (40<a1)))then
   some (1,(wr .i64 (R2+1)))
  else
   bif (!(bif (bif (bif (decide (a0.base=[101]))then true else(decide (a0.base=[116])))then(decide ((↑a0.args.length:Int)=0))else false)then true else(bif (decide (a0.base=[]))then(decide ((↑a0.args.length:Int)=2))else false)))then
    some (5,(wr .i64 (R2+1)))
   else
    B5 (F2 (iq (cZ n) a0 a1) a0.args.length (wr .i64 (R2+1))) (iu)
def gI(n:Nat)(a0:w6):Option (w9):=
 (cZ n a0 1 0).bind fun v1=>
 some (w9.mk v1.1 0)
def rY(a0:w6):Option (Bool):=
 some (bif (decide (a0.base=[]))then(decide ((↑a0.args.length:Int)=0))else false)
def eR:Nat→(x9)→(Int)→(Int)→(Int)→Option (w9×Int)
 |0,_,_,_,_=>none
 |n+1,a0,a1,a2,R2=>
  bif (bif (decide (200<(wr .i64 (R2+1))))then true else(decide (40<a1)))then
   (Q8 1 R2).bind fun v1=>
   some (v1,(wr .i64 (R2+1)))
  else
   bif (decide (a0.kind=1))then
    bif (bif (!decide (a0.index=0))then true else(!decide ((↑a0.args.length:Int)=0)))then
     (Q8 5 R2).bind fun v2=>
     some (v2,(wr .i64 (R2+1)))
    else
     (termName a0.name).bind fun v3=>
     bif (!v3)then
      (Q8 10 R2).bind fun v4=>
      some (v4,(wr .i64 (R2+1)))
     else
      (gI n a0.type).bind fun v5=>
      bif (!decide (v5.code=0))then
       (Q8 12 R2).bind fun v6=>
       some (v6,(wr .i64 (R2+1)))
      else
       some ((w9.mk 0 0),(wr .i64 (R2+1)))
   else
    bif (decide (a0.kind=2))then
     (gd (!(!decide (a0.name=[]))) (rY a0.type) default).bind fun v7=>
     bif (bif (bif (!decide (a0.name=[]))then true else(!v7))then true else(!decide ((↑a0.args.length:Int)=0)))then
      (Q8 5 R2).bind fun v8=>
      some (v8,(wr .i64 (R2+1)))
     else
      bif (bif (decide (a0.index<0))then true else(decide (a2≤a0.index)))then
       (Q8 15 R2).bind fun v9=>
       some (v9,(wr .i64 (R2+1)))
      else
       some ((w9.mk 0 0),(wr .i64 (R2+1)))
    else
     bif (decide (a0.kind=3))then
      bif (bif (bif (!decide (a0.name=[]))then true else(!decide (a0.index=0)))then true else(!decide ((↑a0.args.length:Int)=1)))then
       (Q8 5 R2).bind fun v10=>
       some (v10,(wr .i64 (R2+1)))
      else
       (gI n a0.type).bind fun v11=>
       bif (!decide (v11.code=0))then
        (Q8 12 R2).bind fun v12=>
        some (v12,(wr .i64 (R2+1)))
       else
        chk (0<(↑a0.args.length:Int)) <|
        (eR n (get a0.args 0) (wr .i64 (a1+1)) (wr .i64 (a2+1)) (wr .i64 (R2+1))).bind fun v14=>
        some (v14.1,v14.2)
     else
      bif (decide (a0.kind=4))then
       (gd (!(bif (!decide (a0.name=[]))then true else(!decide (a0.index=0)))) (rY a0.type) default).bind fun v15=>
       bif (bif (bif (bif (!decide (a0.name=[]))then true else(!decide (a0.index=0)))then true else(!v15))then true else(!decide ((↑a0.args.length:Int)=2)))then
        (Q8 5 R2).bind fun v16=>
        some (v16,(wr .i64 (R2+1)))
       else
        chk (0<(↑a0.args.length:Int)) <|
        (eR n (get a0.args 0) (wr .i64 (a1+1)) a2 (wr .i64 (R2+1))).bind fun v18=>
        bif (!decide (v18.1.code=0))then
         some (v18.1,v18.2)
        else
         chk (1<(↑a0.args.length:Int)) <|
         (eR n (get a0.args 1) (wr .i64 (a1+1)) a2 v18.2).bind fun v20=>
         some (v20.1,v20.2)
      else
       (Q8 4 R2).bind fun v21=>
       some (v21,(wr .i64 (R2+1)))
def mX(self:(w6)→(w6)→Option (Bool))(a1:w6)(a0:w6)(k0:Nat)(s0:Unit):Option (Ctl (Bool) (Unit) (Unit)):=
 chk ((↑k0:Int)<(↑a1.args.length:Int)) <|
 (self (get a0.args k0) (get a1.args k0)).bind fun v3=>
 bif (!v3)then
  some (.ret false)
 else
  some (.nxt ())
def mY(t0:Unit):Option (Bool):=
 some true
def fJ:Nat→(w6)→(w6)→Option (Bool)
 |0,_,_=>none
 |n+1,a0,a1=>
  bif (bif (!decide (a0.base=a1.base))then true else(!decide ((↑a0.args.length:Int)=(↑a1.args.length:Int))))then
   some false
  else
   chk (a0.args.length≤9223372036854775807) <|
   B5 (F2 (mX (fJ n) a1 a0) a0.args.length ()) (mY)
def dg:Nat→(x9)→((List w6))→Option (w6×Bool)
 |0,_,_=>none
 |n+1,a0,l0=>
  bif (decide (a0.kind=1))then
   some (a0.type,true)
  else
   bif (decide (a0.kind=2))then
    chk (0≤(wr .i64 ((wr .i64 ((↑l0.length:Int)-1))-a0.index))∧(wr .i64 ((wr .i64 ((↑l0.length:Int)-1))-a0.index))<(↑l0.length:Int)) <|
    some ((get l0 ((wr .i64 ((wr .i64 ((↑l0.length:Int)-1))-a0.index)).toNat)),true)
   else
    bif (decide (a0.kind=3))then
     chk (0≤(↑l0.length:Int)∧0≤(↑l0.length:Int)) <|
     eE (l0++[a0.type]) fun c8=>
     chk (c8.length*40≤top∧c8.length≤top) <|
     chk (0<(↑a0.args.length:Int)) <|
     (dg n (get a0.args 0) c8).bind fun v14=>
     some ((w6.mk [] [a0.type,v14.1]),v14.2)
    else
     chk (0<(↑a0.args.length:Int)) <|
     (dg n (get a0.args 0) l0).bind fun v17=>
     chk (1<(↑a0.args.length:Int)) <|
     (dg n (get a0.args 1) l0).bind fun v19=>
     chk (iQ (!(bif (bif (!v17.2)then true else(!v19.2))then true else(!decide ((↑v17.1.args.length:Int)=2)))) (0<(↑v17.1.args.length:Int))) <|
     (gd (!(bif (bif (!v17.2)then true else(!v19.2))then true else(!decide ((↑v17.1.args.length:Int)=2)))) (fJ n (get v17.1.args 0) v19.1) default).bind fun v22=>
     bif (bif (bif (bif (!v17.2)then true else(!v19.2))then true else(!decide ((↑v17.1.args.length:Int)=2)))then true else(!v22))then
      some ((w6.mk [] []),false)
     else
      chk (1<(↑v17.1.args.length:Int)) <|
      some ((get v17.1.args 1),true)
def jx:Nat→(x9)→((List w6))→Option (w6×Bool)
 |0,_,_=>none
 |n+1,a0,a1=>
  bif (decide (a0.kind=1))then
   some (a0.type,true)
  else
   bif (decide (a0.kind=2))then
    chk (0≤(wr .i64 ((wr .i64 ((↑a1.length:Int)-1))-a0.index))∧(wr .i64 ((wr .i64 ((↑a1.length:Int)-1))-a0.index))<(↑a1.length:Int)) <|
    some ((get a1 ((wr .i64 ((wr .i64 ((↑a1.length:Int)-1))-a0.index)).toNat)),true)
   else
    bif (decide (a0.kind=3))then
     chk (0≤(↑a1.length:Int)∧0≤(↑a1.length:Int)) <|
     eE (a1++[a0.type]) fun c6=>
     chk (c6.length*40≤top∧c6.length≤top) <|
     chk (0<(↑a0.args.length:Int)) <|
     (dg n (get a0.args 0) c6).bind fun v12=>
     some ((w6.mk [] [a0.type,v12.1]),v12.2)
    else
     chk (0<(↑a0.args.length:Int)) <|
     (jx n (get a0.args 0) a1).bind fun v15=>
     chk (1<(↑a0.args.length:Int)) <|
     (jx n (get a0.args 1) a1).bind fun v17=>
     chk (iQ (!(bif (bif (!v15.2)then true else(!v17.2))then true else(!decide ((↑v15.1.args.length:Int)=2)))) (0<(↑v15.1.args.length:Int))) <|
     (gd (!(bif (bif (!v15.2)then true else(!v17.2))then true else(!decide ((↑v15.1.args.length:Int)=2)))) (fJ n (get v15.1.args 0) v17.1) default).bind fun v20=>
     bif (bif (bif (bif (!v15.2)then true else(!v17.2))then true else(!decide ((↑v15.1.args.length:Int)=2)))then true else(!v20))then
      some ((w6.mk [] []),false)
     else
      chk (1<(↑v15.1.args.length:Int)) <|
      some ((get v15.1.args 1),true)
def iO(n:Nat)(a0:x9):Option (w9):=
 (eR n a0 1 0 0).bind fun v1=>
 bif (!decide (v1.1.code=0))then
  some v1.1
 else
  (jx n a0 []).bind fun v2=>
  bif (!v2.2)then
   some (w9.mk 12 (-1))
  else
   some (w9.mk 0 0)
def nT(n:Nat)(a0:y6)(a1:B2)(a2:x6):Option (Int):=
 bif (bif (bif (bif (decide (a2.kids<1))then true else(decide (3<a2.kids)))then true else(decide (a2.weight<0)))then true else(decide (1000000<a2.weight)))then
  some 3
 else
  (jP n a0 a1 a2.graph).bind fun v1=>
  bif (!decide (v1.code=0))then
   some v1.code
  else
   (fV n a2.graph a2.kids).bind fun v2=>
   bif (!v2)then
    some 5
   else
    (iO n a2.meaning).bind fun v3=>
    some v3.code
def T8(a0:Bs)(s0:Nat×Int):Option (Ctl (Int) (Nat×Int) (Int)):=
 bif (decide (s0.1<a0.length))then
  some (.nxt ((s0.1+lR a0 s0.1),(wr .i64 (s0.2+1))))
 else
  some (.brk s0.2)
def bp(t0:Int):Option (Int):=
 some t0
def R9(n:Nat)(a0:Bs):Option (Int):=
 B5 (P4 (T8 a0) n (0,0)) (bp)
def I3(a0:Bs):Option (Int):=
 bif false then
  chk (0<(↑a0.length:Int)) <|
  chk (1<(↑a0.length:Int)) <|
  chk (2<(↑a0.length:Int)) <|
  chk (3<(↑a0.length:Int)) <|
  some (cu .or .u64 (cu .or .u64 (cu .or .u64 (wr .u64 (B0 a0 0)) (wr .u64 ((wr .u64 (B0 a0 1))*2^(min 8 64)))) (wr .u64 ((wr .u64 (B0 a0 2))*2^(min 16 64)))) (wr .u64 ((wr .u64 (B0 a0 3))*2^(min 24 64))))
 else
  chk (0<(↑a0.length:Int)) <|
  chk (1<(↑a0.length:Int)) <|
  chk (2<(↑a0.length:Int)) <|
  chk (3<(↑a0.length:Int)) <|
  chk (4<(↑a0.length:Int)) <|
  chk (5<(↑a0.length:Int)) <|
  chk (6<(↑a0.length:Int)) <|
  chk (7<(↑a0.length:Int)) <|
  some (cu .or .u64 (cu .or .u64 (cu .or .u64 (cu .or .u64 (cu .or .u64 (cu .or .u64 (cu .or .u64 (wr .u64 (B0 a0 0)) (wr .u64 ((wr .u64 (B0 a0 1))*2^(min 8 64)))) (wr .u64 ((wr .u64 (B0 a0 2))*2^(min 16 64)))) (wr .u64 ((wr .u64 (B0 a0 3))*2^(min 24 64)))) (wr .u64 ((wr .u64 (B0 a0 4))*2^(min 32 64)))) (wr .u64 ((wr .u64 (B0 a0 5))*2^(min 40 64)))) (wr .u64 ((wr .u64 (B0 a0 6))*2^(min 48 64)))) (wr .u64 ((wr .u64 (B0 a0 7))*2^(min 56 64))))
def Q9(j3:Bs):Option (Ctl (Bool) (Bs) (Unit)):=
 some (.nxt j3)
def W3(s4:Bs):Option (Ctl (Ctl (Bool) (Bs) (Unit)) (Bs) (Bs)):=
 (gd (decide (32<(↑s4.length:Int))) (I3 s4) default).bind fun v100=>
 chk (iQ (decide (32<(↑s4.length:Int))) (8≤s4.length)) <|
 (gd (decide (32<(↑s4.length:Int))) (I3 (s4.drop 8)) default).bind fun v103=>
 chk (iQ (decide (32<(↑s4.length:Int))) (16≤s4.length)) <|
 (gd (decide (32<(↑s4.length:Int))) (I3 (s4.drop 16)) default).bind fun v106=>
 chk (iQ (decide (32<(↑s4.length:Int))) (0≤24)∧iQ (decide (32<(↑s4.length:Int))) (24≤s4.length)) <|
 (gd (decide (32<(↑s4.length:Int))) (I3 (s4.drop 24)) default).bind fun v110=>
 bif (bif (decide (32<(↑s4.length:Int)))then(decide ((cu .and .u64 (cu .or .u64 (cu .or .u64 v100 v103) (cu .or .u64 v106 v110)) 9259542123273814144)=0))else false)then
  chk (0≤32∧32≤s4.length) <|
  some (.nxt (s4.drop 32))
 else
  some (.brk s4)
def br(t4:Bs):Option (Ctl (Bool) (Bs) (Unit)):=
 Q9 t4
def W4(n:Nat)(s0:Bs):Option (Ctl (Bool) (Bs) (Unit)):=
 bif (decide (0<(↑s0.length:Int)))then
  chk (0<(↑s0.length:Int)) <|
  bif (decide ((B0 s0 0)<128))then
   chk (0≤1∧1≤s0.length) <|
   (gd (decide (8<(↑((s0.drop 1).length):Int))) (I3 (s0.drop 1)) default).bind fun v78=>
   bif (bif (decide (8<(↑((s0.drop 1).length):Int)))then(decide ((cu .and .u64 v78 9259542123273814144)=0))else false)then
    chk (0≤8∧8≤(s0.drop 1).length) <|
    (gd (decide (16<(↑(((s0.drop 1).drop 8).length):Int))) (I3 ((s0.drop 1).drop 8)) default).bind fun v81=>
    chk (iQ (decide (16<(↑(((s0.drop 1).drop 8).length):Int))) (8≤((s0.drop 1).drop 8).length)) <|
    (gd (decide (16<(↑(((s0.drop 1).drop 8).length):Int))) (I3 (((s0.drop 1).drop 8).drop 8)) default).bind fun v84=>
    bif (bif (decide (16<(↑(((s0.drop 1).drop 8).length):Int)))then(decide ((cu .and .u64 (cu .or .u64 v81 v84) 9259542123273814144)=0))else false)then
     chk (0≤16∧16≤((s0.drop 1).drop 8).length) <|
     B5 (P4 (W3) n (((s0.drop 1).drop 8).drop 16)) (br)
    else
     Q9 ((s0.drop 1).drop 8)
   else
    Q9 (s0.drop 1)
  else
   chk (0≤(B0 s0 0)∧(B0 s0 0)<256) <|
   chk (0≤(Int.fdiv (get pN ((B0 s0 0).toNat)) (2^(min 4 8)))∧(Int.fdiv (get pN ((B0 s0 0).toNat)) (2^(min 4 8)))<16) <|
   bif (decide ((wr .i64 (cu .and .u8 (get pN ((B0 s0 0).toNat)) 7))=2))then
    chk (iQ (!(decide ((↑s0.length:Int)<2))) (1<(↑s0.length:Int))) <|
    chk (iQ (!(bif (decide ((↑s0.length:Int)<2))then true else(decide ((B0 s0 1)<((get sS ((Int.fdiv (get pN ((B0 s0 0).toNat)) (2^(min 4 8))).toNat)).lo))))) (1<(↑s0.length:Int))) <|
    bif (bif (bif (decide ((↑s0.length:Int)<2))then true else(decide ((B0 s0 1)<((get sS ((Int.fdiv (get pN ((B0 s0 0).toNat)) (2^(min 4 8))).toNat)).lo))))then true else(decide (((get sS ((Int.fdiv (get pN ((B0 s0 0).toNat)) (2^(min 4 8))).toNat)).hi)<(B0 s0 1))))then
     some (.ret false)
    else
     chk (0≤2∧2≤s0.length) <|
     some (.nxt (s0.drop 2))
   else
    bif (decide ((wr .i64 (cu .and .u8 (get pN ((B0 s0 0).toNat)) 7))=3))then
     chk (iQ (!(decide ((↑s0.length:Int)<3))) (1<(↑s0.length:Int))) <|
     chk (iQ (!(bif (decide ((↑s0.length:Int)<3))then true else(decide ((B0 s0 1)<((get sS ((Int.fdiv (get pN ((B0 s0 0).toNat)) (2^(min 4 8))).toNat)).lo))))) (1<(↑s0.length:Int))) <|
     chk (iQ (!(bif (bif (decide ((↑s0.length:Int)<3))then true else(decide ((B0 s0 1)<((get sS ((Int.fdiv (get pN ((B0 s0 0).toNat)) (2^(min 4 8))).toNat)).lo))))then true else(decide (((get sS ((Int.fdiv (get pN ((B0 s0 0).toNat)) (2^(min 4 8))).toNat)).hi)<(B0 s0 1))))) (2<(↑s0.length:Int))) <|
     chk (iQ (!(bif (bif (bif (decide ((↑s0.length:Int)<3))then true else(decide ((B0 s0 1)<((get sS ((Int.fdiv (get pN ((B0 s0 0).toNat)) (2^(min 4 8))).toNat)).lo))))then true else(decide (((get sS ((Int.fdiv (get pN ((B0 s0 0).toNat)) (2^(min 4 8))).toNat)).hi)<(B0 s0 1))))then true else(decide ((B0 s0 2)<128)))) (2<(↑s0.length:Int))) <|
     bif (bif (bif (bif (bif (decide ((↑s0.length:Int)<3))then true else(decide ((B0 s0 1)<((get sS ((Int.fdiv (get pN ((B0 s0 0).toNat)) (2^(min 4 8))).toNat)).lo))))then true else(decide (((get sS ((Int.fdiv (get pN ((B0 s0 0).toNat)) (2^(min 4 8))).toNat)).hi)<(B0 s0 1))))then true else(decide ((B0 s0 2)<128)))then true else(decide (191<(B0 s0 2))))then
      some (.ret false)
     else
      chk (0≤3∧3≤s0.length) <|
      some (.nxt (s0.drop 3))
    else
     bif (decide ((wr .i64 (cu .and .u8 (get pN ((B0 s0 0).toNat)) 7))=4))then
      chk (iQ (!(decide ((↑s0.length:Int)<4))) (1<(↑s0.length:Int))) <|
      chk (iQ (!(bif (decide ((↑s0.length:Int)<4))then true else(decide ((B0 s0 1)<((get sS ((Int.fdiv (get pN ((B0 s0 0).toNat)) (2^(min 4 8))).toNat)).lo))))) (1<(↑s0.length:Int))) <|
      chk (iQ (!(bif (bif (decide ((↑s0.length:Int)<4))then true else(decide ((B0 s0 1)<((get sS ((Int.fdiv (get pN ((B0 s0 0).toNat)) (2^(min 4 8))).toNat)).lo))))then true else(decide (((get sS ((Int.fdiv (get pN ((B0 s0 0).toNat)) (2^(min 4 8))).toNat)).hi)<(B0 s0 1))))) (2<(↑s0.length:Int))) <|
      chk (iQ (!(bif (bif (bif (decide ((↑s0.length:Int)<4))then true else(decide ((B0 s0 1)<((get sS ((Int.fdiv (get pN ((B0 s0 0).toNat)) (2^(min 4 8))).toNat)).lo))))then true else(decide (((get sS ((Int.fdiv (get pN ((B0 s0 0).toNat)) (2^(min 4 8))).toNat)).hi)<(B0 s0 1))))then true else(decide ((B0 s0 2)<128)))) (2<(↑s0.length:Int))) <|
      chk (iQ (!(bif (bif (bif (bif (decide ((↑s0.length:Int)<4))then true else(decide ((B0 s0 1)<((get sS ((Int.fdiv (get pN ((B0 s0 0).toNat)) (2^(min 4 8))).toNat)).lo))))then true else(decide (((get sS ((Int.fdiv (get pN ((B0 s0 0).toNat)) (2^(min 4 8))).toNat)).hi)<(B0 s0 1))))then true else(decide ((B0 s0 2)<128)))then true else(decide (191<(B0 s0 2))))) (3<(↑s0.length:Int))) <|
      chk (iQ (!(bif (bif (bif (bif (bif (decide ((↑s0.length:Int)<4))then true else(decide ((B0 s0 1)<((get sS ((Int.fdiv (get pN ((B0 s0 0).toNat)) (2^(min 4 8))).toNat)).lo))))then true else(decide (((get sS ((Int.fdiv (get pN ((B0 s0 0).toNat)) (2^(min 4 8))).toNat)).hi)<(B0 s0 1))))then true else(decide ((B0 s0 2)<128)))then true else(decide (191<(B0 s0 2))))then true else(decide ((B0 s0 3)<128)))) (3<(↑s0.length:Int))) <|
      bif (bif (bif (bif (bif (bif (bif (decide ((↑s0.length:Int)<4))then true else(decide ((B0 s0 1)<((get sS ((Int.fdiv (get pN ((B0 s0 0).toNat)) (2^(min 4 8))).toNat)).lo))))then true else(decide (((get sS ((Int.fdiv (get pN ((B0 s0 0).toNat)) (2^(min 4 8))).toNat)).hi)<(B0 s0 1))))then true else(decide ((B0 s0 2)<128)))then true else(decide (191<(B0 s0 2))))then true else(decide ((B0 s0 3)<128)))then true else(decide (191<(B0 s0 3))))then
       some (.ret false)
      else
       chk (0≤4∧4≤s0.length) <|
       some (.nxt (s0.drop 4))
     else
      some (.ret false)
 else
  some (.brk ())
def fu(t0:Unit):Option (Bool):=
 some true
def aV(n:Nat)(a0:Bs):Option (Bool):=
 B5 (P4 (W4 n) n a0) (fu)
def gC(a0:Bs)(a1:Int):Option (Int):=
 (indexByte a0 a1).bind fun v1=>
 some v1
def fE(a0:Int):Option (Bool):=
 bif (bif (decide (0≤a0))then(decide (a0<55296))else false)then
  some true
 else
  bif (bif (decide (57343<a0))then(decide (a0≤1114111))else false)then
   some true
  else
   some false
def fX(a0:Bs)(s0:Nat):Option (Ctl (Int) (Nat) (Unit)):=
 bif (decide (s0<a0.length))then
  chk (s0<a0.length) <|
  bif (decide ((rune a0 s0)=65533))then
   some (.ret (↑s0:Int))
  else
   some (.nxt (s0+lR a0 s0))
 else
  some (.brk ())
def jT(t0:Unit):Option (Int):=
 some (-1)
def jU(a1:Int)(j2:Int)(a0:Bs)(s3:Int):Option (Ctl (Ctl (Int) (Unit) (Unit)) (Int) (Unit)):=
 bif (decide (s3<(↑((P3 a1).length):Int)))then
  chk (0≤(wr .i64 (j2-s3))∧(wr .i64 (j2-s3))<(↑a0.length:Int)) <|
  chk (0≤(wr .i64 ((wr .i64 ((↑((P3 a1).length):Int)-1))-s3))∧(wr .i64 ((wr .i64 ((↑((P3 a1).length):Int)-1))-s3))<(↑((P3 a1).length):Int)) <|
  bif (!decide ((B0 a0 (wr .i64 (j2-s3)))=(B0 (P3 a1) (wr .i64 ((wr .i64 ((↑((P3 a1).length):Int)-1))-s3)))))then
   none
  else
   some (.nxt (wr .i64 (s3+1)))
 else
  some (.brk ())
def jV(j2:Int)(a1:Int)(t3:Unit):Option (Ctl (Int) (Unit) (Unit)):=
 some (.ret (wr .i64 (j2-(wr .i64 ((↑((P3 a1).length):Int)-1)))))
def gj(n:Nat)(a1:Int)(a0:Bs)(j2:Int):Option (Ctl (Int) (Unit) (Unit)):=
 B5 (P4 (jU a1 j2 a0) n 1) (jV j2 a1)
def dh(n:Nat)(a1:Int)(a0:Bs)(s1:Unit):Option (Ctl (Int) (Unit) (Unit)):=
 bif (decide ((wr .i64 ((↑((P3 a1).length):Int)-1))<(↑a0.length:Int)))then
  chk (0≤(wr .i64 ((↑((P3 a1).length):Int)-1))∧(wr .i64 ((↑((P3 a1).length):Int)-1))<(↑a0.length:Int)) <|
  chk ((wr .i64 ((↑((P3 a1).length):Int)-1))<(↑((P3 a1).length):Int)) <|
  bif (!decide ((B0 a0 (wr .i64 ((↑((P3 a1).length):Int)-1)))=(B0 (P3 a1) (wr .i64 ((↑((P3 a1).length):Int)-1)))))then
   chk (0≤(wr .i64 ((wr .i64 ((↑((P3 a1).length):Int)-1))+1))∧(wr .i64 ((wr .i64 ((↑((P3 a1).length):Int)-1))+1)).toNat≤a0.length) <|
   (gC (a0.drop ((wr .i64 ((wr .i64 ((↑((P3 a1).length):Int)-1))+1)).toNat)) (B0 (P3 a1) (wr .i64 ((↑((P3 a1).length):Int)-1)))).bind fun v10=>
   bif (decide (v10<0))then
    some (.ret (-1))
   else
    gj n a1 a0 (wr .i64 ((wr .i64 ((↑((P3 a1).length):Int)-1))+(wr .i64 (v10+1))))
  else
   gj n a1 a0 (wr .i64 ((↑((P3 a1).length):Int)-1))
 else
  some (.brk ())
def jW(t1:Unit):Option (Int):=
 some (-1)
def eG(n:Nat)(a0:Bs)(a1:Int):Option (Int):=
 bif (bif (decide (0≤a1))then(decide (a1<128))else false)then
  (gC a0 (wr .u8 a1)).bind fun v1=>
  some v1
 else
  bif (decide (a1=65533))then
   B5 (P4 (fX a0) n 0) (jT)
  else
   (fE a1).bind fun v4=>
   bif (!v4)then
    some (-1)
   else
    B5 (P4 (dh n a1 a0) n ()) (jW)
def fN(a0:Int):Option (Bool):=
 some (decide (8<a0))
def gn(n:Nat)(a0:Bs)(j0:Int):Option (Int):=
 (eG n a0 j0).bind fun v2=>
 some v2
def fZ(n:Nat)(a0:Bs)(a1:Bs)(s2:Nat):Option (Ctl (Int) (Nat) (Unit)):=
 bif (decide (s2<a0.length))then
  chk (s2<a0.length) <|
  (eG n a1 (rune a0 s2)).bind fun v7=>
  bif (decide (0≤v7))then
   some (.ret (↑s2:Int))
  else
   some (.nxt (s2+lR a0 s2))
 else
  some (.brk ())
def jX(t2:Unit):Option (Int):=
 some (-1)
def fY(n:Nat)(a0:Bs)(a1:Bs)(j1:Unit):Option (Int):=
 B5 (P4 (fZ n a0 a1) n 0) (jX)
def jH(n:Nat)(a0:Bs)(a1:Bs):Option (Int):=
 bif (decide (a1=[]))then
  some (-1)
 else
  bif (decide ((↑a1.length:Int)=1))then
   chk (0<(↑a1.length:Int)) <|
   bif (decide (128≤(wr .i32 (B0 a1 0))))then
    gn n a0 65533
   else
    gn n a0 (wr .i32 (B0 a1 0))
  else
   (fN (↑a0.length:Int)).bind fun v3=>
   bif v3 then
    none
   else
    fY n a0 a1 ()
def kN(n:Nat)(a0:Bs)(a1:Bs):Option (Int):=
 bif decide (8<a0.length)then chk (2≤a1.length∧a0.length<4294967281∧a1.length<4294967281∧a1.all (fun b=>decide (b.toNat<128))=true) (some (Lib.indexAny a0 a1))
 else jH n a0 a1
def bS(n:Nat)(a0:Bs)(a1:Bs):Option (Bool):=
 (kN n a0 a1).bind fun v1=>
 some (decide (0≤v1))
def nS(n:Nat)(a0:Bs):Option (Bool):=
 (R9 n a0).bind fun v1=>
 (gd (bif (decide (1≤v1))then(decide (v1≤30))else false) (aV n a0) default).bind fun v2=>
 (gd (bif (bif (decide (1≤v1))then(decide (v1≤30))else false)then v2 else false) (bS n a0 [32,9,10,40,41,91,93,44,59]) default).bind fun v3=>
 some (bif (bif (bif (decide (1≤v1))then(decide (v1≤30))else false)then v2 else false)then(!v3)else false)
def mo(n:Nat)(a0:y6)(a1:B2)(a2:C5):Option (Int):=
 (nS n a2.word).bind fun v1=>
 bif (!v1)then
  some 10
 else
  bif (bif (decide (a2.weight<0))then true else(decide (1000000<a2.weight)))then
   some 3
  else
   (jP n a0 a1 a2.graph).bind fun v2=>
   bif (!decide (v2.code=0))then
    some v2.code
   else
    (iO n a2.meaning).bind fun v3=>
    some v3.code
def iw(n:Nat)(a0:x5)(v4:B2)(k0:Nat)(s0:(List (Bs×Int))):Option (Ctl (w9) ((List (Bs×Int))) ((List (Bs×Int)))):=
 (termName ((get a0.rules k0).name)).bind fun v12=>
 bif (!v12)then
  (cR 10 (↑k0:Int)).bind fun v13=>
  some (.ret v13)
 else
  bif (assoc ((get a0.rules k0).name) s0).isSome then
   (cR 7 (↑k0:Int)).bind fun v14=>
   some (.ret v14)
  else
   eE (Q6 ((get a0.rules k0).name) (↑k0:Int) s0) fun c15=>
   (nT n a0.hierarchy v4 (get a0.rules k0)).bind fun v17=>
   bif (!decide (v17=0))then
    (cR v17 (↑k0:Int)).bind fun v18=>
    some (.ret v18)
   else
    some (.nxt c15)
def iz(n:Nat)(a0:x5)(v4:B2)(k1:Nat)(s1:Unit):Option (Ctl (w9) (Unit) (Unit)):=
 (mo n a0.hierarchy v4 (get a0.I7 k1)).bind fun v19=>
 bif (!decide (v19=0))then
  (cR v19 (↑k1:Int)).bind fun v20=>
  some (.ret v20)
 else
  some (.nxt ())
def iA(n:Nat)(a0:x5)(v4:B2)(t1:Unit):Option (w9):=
 (jP n a0.hierarchy v4 a0.start).bind fun v21=>
 bif (!decide (v21.code=0))then
  (cR v21.code (-1)).bind fun v22=>
  some v22
 else
  some (w9.mk 0 0)
def iy(n:Nat)(a0:x5)(v4:B2)(t0:(List (Bs×Int))):Option (w9):=
 B5 (F2 (iz n a0 v4) a0.I7.length ()) (iA n a0 v4)
def dr(n:Nat)(a0:x5):Option (w9):=
 (fI a0.hierarchy).bind fun v1=>
 bif (!decide (v1.code=0))then
  some v1
 else
  bif (decide ((↑a0.hierarchy.C1.length:Int)≤3))then
   (cR 9 (-1)).bind fun v2=>
   some v2
  else
   bif (bif (decide (40<(↑a0.rules.length:Int)))then true else(decide (100<(↑a0.I7.length:Int))))then
    (cR 2 (-1)).bind fun v3=>
    some v3
   else
    (fH a0.hierarchy.types).bind fun v4=>
    B5 (F2 (iw n a0 v4) a0.rules.length []) (iy n a0 v4)
def L3(a0:Int)(a1:Int):Option (w9):=
 some (w9.mk a0 a1)
def bh(a0:Int)(a1:Int):Option (w9):=
 some (w9.mk a0 a1)
def jy(self:(w8)→(Int)→(Int)→(Int)→((List x7))→((List y8))→((List x6))→((List C5))→((List y4))→(Int)→Option (w9×Int×Int))(a0:w8)(a1:Int)(j1:Int)(oa:(List x7))(yW:(List y8))(wz:(List x6))(wZ:(List C5))(yX:(List y4))(k2:Nat)(s2:Int×Int):Option (Ctl (w9×Int×Int) (Int×Int) (Int×Int)):=
 (self (get a0.kids k2) (wr .i64 (a1+1)) j1 s2.1 oa yW wz wZ yX s2.2).bind fun v9=>
 bif (!decide (v9.1.code=0))then
  some (.ret (v9.1,v9.2.1,v9.2.2))
 else
  some (.nxt (v9.2.1,v9.2.2))
def lN(t2:Int×Int):Option (w9×Int×Int):=
 some ((w9.mk 0 0),t2.1,t2.2)
def ft(self:(w8)→(Int)→(Int)→(Int)→((List x7))→((List y8))→((List x6))→((List C5))→((List y4))→(Int)→Option (w9×Int×Int))(R2:Int)(j0:Int×Int)(a0:w8)(a1:Int)(oa:(List x7))(yW:(List y8))(wz:(List x6))(wZ:(List C5))(yX:(List y4))(j1:Int):Option (w9×Int×Int):=
 bif (decide (3<j1))then
  (bh 14 R2).bind fun v7=>
  some (v7,(wr .i64 (R2+1)),j0.1)
 else
  B5 (F2 (jy self a0 a1 j1 oa yW wz wZ yX) a0.kids.length ((wr .i64 (R2+1)),j0.1)) (lN)
def gJ(self:(w8)→(Int)→(Int)→(Int)→((List x7))→((List y8))→((List x6))→((List C5))→((List y4))→(Int)→Option (w9×Int×Int))(a0:w8)(R2:Int)(a1:Int)(oa:(List x7))(yW:(List y8))(wz:(List x6))(wZ:(List C5))(yX:(List y4))(a2:Int)(j0:Int×Int):Option (w9×Int×Int):=
 bif (!decide ((↑a0.kids.length:Int)=j0.2))then
  (bh 9 R2).bind fun v6=>
  some (v6,(wr .i64 (R2+1)),j0.1)
 else
  bif (!decide (j0.2=1))then
   ft self R2 j0 a0 a1 oa yW wz wZ yX 0
  else
   ft self R2 j0 a0 a1 oa yW wz wZ yX (wr .i64 (a2+1))
def bg:Nat→(w8)→(Int)→(Int)→(Int)→((List x7))→((List y8))→((List x6))→((List C5))→((List y4))→(Int)→Option (w9×Int×Int)
 |0,_,_,_,_,_,_,_,_,_,_=>none
 |n+1,a0,a1,a2,R2,oa,yW,wz,wZ,yX,mZ=>
  bif (bif (decide (200<(wr .i64 (R2+1))))then true else(decide (48<a1)))then
   (bh 1 R2).bind fun v1=>
   some (v1,(wr .i64 (R2+1)),mZ)
  else
   bif (bif (bif (decide (a0.rule<(-1)))then true else(decide ((↑wz.length:Int)≤a0.rule)))then true else(bif (decide (a0.rule=(-1)))then(bif (decide (a0.lex<0))then true else(decide ((↑wZ.length:Int)≤a0.lex)))else false))then
    (bh 3 R2).bind fun v2=>
    some (v2,(wr .i64 (R2+1)),mZ)
   else
    bif (bif (decide (0≤a0.rule))then(!decide (a0.lex=0))else false)then
     (bh 5 R2).bind fun v3=>
     some (v3,(wr .i64 (R2+1)),mZ)
    else
     bif (decide (0≤a0.rule))then
      chk (0≤a0.rule∧a0.rule<(↑wz.length:Int)) <|
      gJ (bg n) a0 R2 a1 oa yW wz wZ yX a2 (mZ,(get wz a0.rule.toNat).kids)
     else
      gJ (bg n) a0 R2 a1 oa yW wz wZ yX a2 ((wr .i64 (mZ+1)),0)
def kl(n:Nat)(a0:x5)(a1:w8):Option (w9):=
 (bg n a1 1 0 0 a0.hierarchy.types a0.hierarchy.C1 a0.rules a0.I7 a0.start.nodes 0).bind fun v1=>
 bif (!decide (v1.1.code=0))then
  some v1.1
 else
  bif (decide (12<v1.2.2))then
   (bh 2 (-2)).bind fun v2=>
   some v2
  else
   some (w9.mk 0 0)
def lO(n:Nat)(a0:x5)(a1:w8):Option (w9):=
 (dr n a0).bind fun v1=>
 bif (!decide (v1.code=0))then
  some v1
 else
  (kl n a0 a1).bind fun v2=>
  some v2
def oP(a0:Int)(l1:(List Bs))(mZ:(List x7))(wJ:(List y8))(wK:(List x6))(uF:(List C5))(wL:(List y4)):Option ((List Bs)):=
 chk (0≤a0∧a0<(↑uF.length:Int)) <|
 eE (l1++[(get uF a0.toNat).word]) fun c4=>
 chk (c4.length*16≤top∧c4.length≤top) <|
 some c4
def kP(self:(w8)→((List Bs))→((List x7))→((List y8))→((List x6))→((List C5))→((List y4))→Option ((List Bs)))(a0:w8)(mZ:(List x7))(wJ:(List y8))(wK:(List x6))(uF:(List C5))(wL:(List y4))(k1:Nat)(s1:(List Bs)):Option (Ctl ((List Bs)) ((List Bs)) ((List Bs))):=
 (self (get a0.kids k1) s1 mZ wJ wK uF wL).bind fun v4=>
 some (.nxt v4)
def kQ(t1:(List Bs)):Option ((List Bs)):=
 some t1
def fK(self:(w8)→((List Bs))→((List x7))→((List y8))→((List x6))→((List C5))→((List y4))→Option ((List Bs)))(a0:w8)(mZ:(List x7))(wJ:(List y8))(wK:(List x6))(uF:(List C5))(wL:(List y4))(j0:(List Bs)):Option ((List Bs)):=
 B5 (F2 (kP self a0 mZ wJ wK uF wL) a0.kids.length j0) (kQ)
def cS:Nat→(w8)→((List Bs))→((List x7))→((List y8))→((List x6))→((List C5))→((List y4))→Option ((List Bs))
 |0,_,_,_,_,_,_,_=>none
 |n+1,a0,l1,mZ,wJ,wK,uF,wL=>
  bif (decide (a0.rule<0))then
   (oP a0.lex l1 mZ wJ wK uF wL).bind fun v1=>
   fK (cS n) a0 mZ wJ wK uF wL v1
  else
   fK (cS n) a0 mZ wJ wK uF wL l1
def qA(n:Nat)(a0:x5)(a1:w8):Option ((List Bs)×w9):=
 (lO n a0 a1).bind fun v1=>
 bif (!decide (v1.code=0))then
  some ([],v1)
 else
  (cS n a1 [] a0.hierarchy.types a0.hierarchy.C1 a0.rules a0.I7 a0.start.nodes).bind fun v2=>
  some (v2,(w9.mk 0 0))
def ey(a1:(List Bs))(a0:(List Bs))(k0:Nat)(s0:Unit):Option (Ctl (Bool) (Unit) (Unit)):=
 chk ((↑k0:Int)<(↑a1.length:Int)) <|
 bif (!decide ((get a0 k0)=(get a1 k0)))then
  some (.ret false)
 else
  some (.nxt ())
def eA(t0:Unit):Option (Bool):=
 some true
def aF(a0:(List Bs))(a1:(List Bs)):Option (Bool):=
 bif (!decide ((↑a0.length:Int)=(↑a1.length:Int)))then
  some false
 else
  B5 (F2 (ey a1 a0) a0.length ()) (eA)
def aL(v10:(List Bs)×w9)(k0:Nat)(j2:(List Bs)):Option (Ctl (w9) ((List Bs)) ((List Bs))):=
 (aF j2 v10.1).bind fun v11=>
 bif (!v11)then
  (L3 16 (↑k0:Int)).bind fun v12=>
  some (.ret v12)
 else
  some (.nxt j2)
def cC(n:Nat)(a0:x5)(a1:(List w8))(k0:Nat)(s0:(List Bs)):Option (Ctl (w9) ((List Bs)) ((List Bs))):=
 (kl n a0 (get a1 k0)).bind fun v8=>
 bif (!decide (v8.code=0))then
  (L3 v8.code (↑k0:Int)).bind fun v9=>
  some (.ret v9)
 else
  (qA n a0 (get a1 k0)).bind fun v10=>
  bif (decide ((↑k0:Int)=0))then
   aL v10 k0 v10.1
  else
   aL v10 k0 s0
def cD(t0:(List Bs)):Option (w9):=
 some (w9.mk 0 0)
def I4(n:Nat)(a0:x5)(a1:(List w8)):Option (w9):=
 (dr n a0).bind fun v1=>
 bif (!decide (v1.code=0))then
  some v1
 else
  bif (decide (200<(↑a1.length:Int)))then
   (L3 2 (-2)).bind fun v2=>
   some v2
  else
   B5 (F2 (cC n a0 a1) a1.length []) (cD)
def iB(self:(w8)→(Int)→((List w5))→(Int)→Option (Int×(List w5)))(a0:w8)(j1:Int)(k2:Nat)(s2:Int×(List w5)):Option (Ctl (Int×(List w5)) (Int×(List w5)) (Int×(List w5))):=
 (self (get a0.kids k2) j1 s2.2 s2.1).bind fun v9=>
 some (.nxt (v9.1,v9.2))
def iC(l1:(List w5))(t2:Int×(List w5)):Option (Int×(List w5)):=
 chk ((↑l1.length:Int)<(↑t2.2.length:Int)) <|
 eE (t2.2.set l1.length (w5.mk ((get t2.2 l1.length).from_) t2.1 ((get t2.2 l1.length).level) ((get t2.2 l1.length).rule) ((get t2.2 l1.length).lex))) fun c14=>
 some (t2.1,c14)
def bT(self:(w8)→(Int)→((List w5))→(Int)→Option (Int×(List w5)))(a0:w8)(j0:Int)(c2:(List w5))(l1:(List w5))(j1:Int):Option (Int×(List w5)):=
 B5 (F2 (iB self a0 j1) a0.kids.length (j0,c2)) (iC l1)
def bU(self:(w8)→(Int)→((List w5))→(Int)→Option (Int×(List w5)))(a0:w8)(c2:(List w5))(l1:(List w5))(a1:Int)(j0:Int):Option (Int×(List w5)):=
 bif (decide ((↑a0.kids.length:Int)=1))then
  bT self a0 j0 c2 l1 (wr .i64 (a1+1))
 else
  bT self a0 j0 c2 l1 0
def Q5:Nat→(w8)→(Int)→((List w5))→(Int)→Option (Int×(List w5))
 |0,_,_,_,_=>none
 |n+1,a0,a1,l1,mZ=>
  eE (l1++[(w5.mk mZ 0 a1 a0.rule a0.lex)]) fun c2=>
  chk (c2.length*40≤top∧c2.length≤top) <|
  bif (decide (a0.rule<0))then
   bU (Q5 n) a0 c2 l1 a1 (wr .i64 (mZ+1))
  else
   bU (Q5 n) a0 c2 l1 a1 mZ
def E6(l0:(List w5)):Option ((List w5)):=
 chk (l0.length<4611686018427387904) (some (lV jr l0))
def jA(n:Nat)(a0:w8):Option ((List w5)):=
 (Q5 n a0 0 [] 0).bind fun v1=>
 (E6 v1.2).bind fun v3=>
 some v3
def gb(n:Nat)(a0:(List w8))(k0:Nat)(s0:(List (List w5))):Option (Ctl ((List (List w5))) ((List (List w5))) ((List (List w5)))):=
 (jA n (get a0 k0)).bind fun v8=>
 eE (s0++[v8]) fun c10=>
 chk (c10.length*24≤top∧c10.length≤top) <|
 some (.nxt c10)
def gi(t0:(List (List w5))):Option ((List (List w5))):=
 some t0
def X2(n:Nat)(a0:(List w8)):Option ((List (List w5))):=
 B5 (F2 (gb n a0) a0.length []) (gi)
def aM(v1:(List w5))(s0:(List w5)×Int)(s2:Int):Option (Ctl (Ctl ((List w5)) ((List w5)×Int) ((List w5))) (Int) (Int)):=
 chk (iQ (decide (s2<(↑v1.length:Int))) (0≤s2)∧iQ (decide (s2<(↑v1.length:Int))) (s2<(↑v1.length:Int))) <|
 chk (iQ (decide (s2<(↑v1.length:Int))) (0≤s0.2)∧iQ (decide (s2<(↑v1.length:Int))) (s0.2<(↑v1.length:Int))) <|
 bif (bif (decide (s2<(↑v1.length:Int)))then(decide ((get v1 s2.toNat).from_=(get v1 s0.2.toNat).from_)&&(decide ((get v1 s2.toNat).to_=(get v1 s0.2.toNat).to_)&&(decide ((get v1 s2.toNat).level=(get v1 s0.2.toNat).level)&&(decide ((get v1 s2.toNat).rule=(get v1 s0.2.toNat).rule)&&(decide ((get v1 s2.toNat).lex=(get v1 s0.2.toNat).lex))))))else false)then
  some (.nxt (wr .i64 (s2+1)))
 else
  some (.brk s2)
def fF(s0:(List w5)×Int)(a0:(List (List w5)))(v1:(List w5))(t2:Int):Option (Ctl ((List w5)) ((List w5)×Int) ((List w5))):=
 bif (decide ((wr .i64 (t2-s0.2))<(↑a0.length:Int)))then
  chk (0≤s0.2∧s0.2<(↑v1.length:Int)) <|
  eE (s0.1++[(get v1 s0.2.toNat)]) fun c33=>
  chk (c33.length*40≤top∧c33.length≤top) <|
  some (.nxt (c33,t2))
 else
  some (.nxt (s0.1,t2))
def U7(n:Nat)(v1:(List w5))(a0:(List (List w5)))(s0:(List w5)×Int):Option (Ctl ((List w5)) ((List w5)×Int) ((List w5))):=
 bif (decide (s0.2<(↑v1.length:Int)))then
  B5 (P4 (aM v1 s0) n s0.2) (fF s0 a0 v1)
 else
  some (.brk s0.1)
def cE(t0:(List w5)):Option ((List w5)):=
 some t0
def Y0(n:Nat)(a0:(List (List w5))):Option ((List w5)):=
 (yt a0).bind fun v1=>
 B5 (P4 (U7 n v1 a0) n ([],0)) (cE)
def dx(n:Nat)(a0:x5)(a1:(List w8)):Option ((List w5)×w9):=
 (I4 n a0 a1).bind fun v1=>
 bif (!decide (v1.code=0))then
  some ([],v1)
 else
  (X2 n a1).bind fun v2=>
  (Y0 n v2).bind fun v3=>
  some (v3,(w9.mk 0 0))
def bZ(n:Nat)(a0:x5)(a1:(List w8))(a2:(List w7)):Option (w9):=
 (I4 n a0 a1).bind fun v1=>
 bif (!decide (v1.code=0))then
  some v1
 else
  bif (decide (300<(↑a2.length:Int)))then
   (L3 2 (-3)).bind fun v2=>
   some v2
  else
   some (w9.mk 0 0)
def B7(a0:(List w5))(a1:w5)(s0:Int×Int):Option (Ctl (Int×Bool) (Int×Int) (Int)):=
 bif (decide (s0.2<s0.1))then
  chk (0≤(wr .i64 (Int.fdiv (wr .u64 (wr .i64 (s0.2+s0.1))) (2^(min 1 64))))∧(wr .i64 (Int.fdiv (wr .u64 (wr .i64 (s0.2+s0.1))) (2^(min 1 64))))<(↑a0.length:Int)) <|
  (T4 (get a0 ((wr .i64 (Int.fdiv (wr .u64 (wr .i64 (s0.2+s0.1))) (2^(min 1 64)))).toNat)) a1).bind fun v6=>
  bif (decide (v6<0))then
   some (.nxt (s0.1,(wr .i64 ((wr .i64 (Int.fdiv (wr .u64 (wr .i64 (s0.2+s0.1))) (2^(min 1 64))))+1))))
  else
   some (.nxt ((wr .i64 (Int.fdiv (wr .u64 (wr .i64 (s0.2+s0.1))) (2^(min 1 64)))),s0.2))
 else
  some (.brk s0.2)
def D7(a0:(List w5))(a1:w5)(t0:Int):Option (Int×Bool):=
 chk (iQ (decide (t0<(↑a0.length:Int))) (0≤t0)∧iQ (decide (t0<(↑a0.length:Int))) (t0<(↑a0.length:Int))) <|
 (gd (decide (t0<(↑a0.length:Int))) (T4 (get a0 t0.toNat) a1) default).bind fun v10=>
 some (t0,(bif (decide (t0<(↑a0.length:Int)))then(decide (v10=0))else false))
def C8(n:Nat)(a0:(List w5))(a1:w5):Option (Int×Bool):=
 B5 (P4 (B7 a0 a1) n ((↑a0.length:Int),0)) (D7 a0 a1)
def S0(n:Nat)(a0:(List w5))(a1:w7):Option (Bool):=
 (C8 n a0 a1.what).bind fun v1=>
 some (decide (v1.2=a1.yes))
def dN(n:Nat)(a0:w7)(R2:(List w5)):Option (Bool):=
 (S0 n R2 a0).bind fun v1=>
 some (!v1)
def K8(n:Nat)(a0:(List w7))(R2:(List w5))(k0:Nat)(s0:Unit):Option (Ctl (Int) (Unit) (Unit)):=
 (dN n (get a0 k0) R2).bind fun v1=>
 bif v1 then
  some (.ret (↑k0:Int))
 else
  some (.nxt ())
def K9(t0:Unit):Option (Int):=
 some (-1)
def M9(n:Nat)(a0:(List w7))(R2:(List w5)):Option (Int):=
 B5 (F2 (K8 n a0 R2) a0.length ()) (K9)
def G8(n:Nat)(a0:(List w7))(R2:(List w5)):Option (Bool):=
 (M9 n a0 R2).bind fun v1=>
 some (decide (0≤v1))
def aQ(n:Nat)(a1:(List w7))(a0:(List (List w5)))(k0:Nat)(s0:(List Int)):Option (Ctl ((List Int)) ((List Int)) ((List Int))):=
 (G8 n a1 (get a0 k0)).bind fun v8=>
 bif (!v8)then
  eE (s0++[(↑k0:Int)]) fun c10=>
  chk (c10.length*8≤top∧c10.length≤top) <|
  some (.nxt c10)
 else
  some (.nxt s0)
def aR(t0:(List Int)):Option ((List Int)):=
 some t0
def L4(n:Nat)(a0:(List (List w5)))(a1:(List w7)):Option ((List Int)):=
 B5 (F2 (aQ n a1 a0) a0.length []) (aR)
def J4(n:Nat)(a0:x5)(a1:(List w8))(a2:(List w7)):Option ((List Int)×w9):=
 (bZ n a0 a1 a2).bind fun v1=>
 bif (!decide (v1.code=0))then
  some ([],v1)
 else
  (X2 n a1).bind fun v2=>
  (L4 n v2 a2).bind fun v3=>
  some (v3,(w9.mk 0 0))
def P1(a0:(List Int))(a1:(List Int))(s0:Int):Option (Ctl (Bool) (Int) (Unit)):=
 bif (decide (s0<(↑a0.length:Int)))then
  chk (0≤s0∧s0<(↑a0.length:Int)) <|
  chk (s0<(↑a1.length:Int)) <|
  bif (!decide ((get a0 s0.toNat)=(get a1 s0.toNat)))then
   some (.ret false)
  else
   some (.nxt (wr .i64 (s0+1)))
 else
  some (.brk ())
def eB(t0:Unit):Option (Bool):=
 some true
def J2(n:Nat)(a0:(List Int))(a1:(List Int)):Option (Bool):=
 bif (!decide ((↑a0.length:Int)=(↑a1.length:Int)))then
  some false
 else
  B5 (P4 (P1 a0 a1) n 0) (eB)
def E0(n:Nat):Option (Bool):=
 (eW n).bind fun v1=>
 (dR).bind fun v2=>
 (dx n v1 v2).bind fun v3=>
 (eW n).bind fun v4=>
 (dR).bind fun v5=>
 (J4 n v4 v5 [(w7.mk (w5.mk 0 1 0 (-1) 8) true)]).bind fun v7=>
 chk (iQ (bif (decide (v3.2.code=0))then(decide ((↑v3.1.length:Int)=2))else false) (1<(↑v3.1.length:Int))) <|
 (gd (bif (bif (bif (decide (v3.2.code=0))then(decide ((↑v3.1.length:Int)=2))else false)then(decide ((get v3.1 1).from_=0)&&(decide ((get v3.1 1).to_=1)&&(decide ((get v3.1 1).level=0)&&(decide ((get v3.1 1).rule= -1)&&(decide ((get v3.1 1).lex=8))))))else false)then(decide (v7.2.code=0))else false) (J2 n v7.1 [1]) default).bind fun v11=>
 some (bif (bif (bif (bif (decide (v3.2.code=0))then(decide ((↑v3.1.length:Int)=2))else false)then(decide ((get v3.1 1).from_=0)&&(decide ((get v3.1 1).to_=1)&&(decide ((get v3.1 1).level=0)&&(decide ((get v3.1 1).rule= -1)&&(decide ((get v3.1 1).lex=8))))))else false)then(decide (v7.2.code=0))else false)then v11 else false)
def dF(a0:Bs)(k0:Nat)(s0:Unit):Option (Ctl (Bool) (Unit) (Unit)):=
 bif (bif (!(bif (decide (97≤(get (bytesOf a0) k0)))then(decide ((get (bytesOf a0) k0)≤122))else false))then(bif (!(bif (bif (bif (decide (48≤(get (bytesOf a0) k0)))then(decide ((get (bytesOf a0) k0)≤57))else false)then true else(decide ((get (bytesOf a0) k0)=95)))then true else(decide ((get (bytesOf a0) k0)=45))))then true else(decide ((↑k0:Int)=0)))else false)then
  some (.ret false)
 else
  some (.nxt ())
def dG(t0:Unit):Option (Bool):=
 some true
def X5(a0:Bs):Option (Bool):=
 bif (bif (decide ((↑a0.length:Int)<1))then true else(decide (30<(↑a0.length:Int))))then
  some false
 else
  chk (a0.length≤top) <|
  B5 (F2 (dF a0) ((bytesOf a0).length) ()) (dG)
def R8(a0:(List x7))(k0:Nat)(k3:Nat)(s3:Unit):Option (Ctl (Ctl (w9) (Unit) (Unit)) (Unit) (Unit)):=
 bif (decide (((get (a0.take k0) k3).name)=((get a0 k0).name)))then
  some (.ret (.ret (w9.mk 7 (↑k0:Int))))
 else
  some (.nxt ())
def Y3(a0:(List x7))(k0:Nat)(k4:Nat)(s4:Unit):Option (Ctl (Ctl (w9) (Unit) (Unit)) (Unit) (Unit)):=
 bif (bif (decide ((get ((get a0 k0).parents) k4)<0))then true else(decide ((↑k0:Int)≤(get ((get a0 k0).parents) k4))))then
  some (.ret (.ret (w9.mk 3 (↑k0:Int))))
 else
  chk (iQ (decide (0<(↑k4:Int))) (0≤(wr .i64 ((↑k4:Int)-1)))∧iQ (decide (0<(↑k4:Int))) ((wr .i64 ((↑k4:Int)-1))<(↑(((get a0 k0).parents).length):Int))) <|
  bif (bif (decide (0<(↑k4:Int)))then(decide ((get ((get a0 k0).parents) k4)≤(get ((get a0 k0).parents) ((wr .i64 ((↑k4:Int)-1)).toNat))))else false)then
   some (.ret (.ret (w9.mk 13 (↑k0:Int))))
  else
   some (.nxt ())
def Y4(t4:Unit):Option (Ctl (w9) (Unit) (Unit)):=
 some (.nxt ())
def Y2(k0:Nat)(a0:(List x7))(t3:Unit):Option (Ctl (w9) (Unit) (Unit)):=
 bif (!decide ((decide ((↑k0:Int)=0))=(decide ((↑(((get a0 k0).parents).length):Int)=0))))then
  some (.ret (w9.mk 5 (↑k0:Int)))
 else
  B5 (F2 (Y3 a0 k0) (((get a0 k0).parents).length) ()) (Y4)
def Y1(a0:(List x7))(k0:Nat)(s0:Unit):Option (Ctl (w9) (Unit) (Unit)):=
 (X5 ((get a0 k0).name)).bind fun v10=>
 bif (!v10)then
  some (.ret (w9.mk 10 (↑k0:Int)))
 else
  chk (0≤(↑k0:Int)∧k0≤a0.length) <|
  B5 (F2 (R8 a0 k0) ((a0.take k0).length) ()) (Y2 k0 a0)
def cP(t0:Unit):Option (w9):=
 some (w9.mk 0 0)
def L8(a0:(List x7)):Option (w9):=
 bif (bif (decide ((↑a0.length:Int)=0))then true else(decide (60<(↑a0.length:Int))))then
  some (w9.mk 2 (-1))
 else
  B5 (F2 (Y1 a0) a0.length ()) (cP)
def ug(n:Nat)(a0:List x7):Option (List (List Bool)):=
 chk (a0.length*24≤top) <|
 chk (((List.range a0.length).all fun i=>(List.range a0.length).all fun j=>(F8 n a0 (i:Int) (j:Int)).isSome)=true) <|
 some (tf a0.length a0.length fun(i j:Nat)=>(F8 n a0 (i:Int) (j:Int)).getD false)
def cI(v1:(List (List Bool)))(k4:Nat)(k0:Nat)(k5:Nat)(s5:Int):Option (Ctl (Ctl (Ctl (Int) (Unit) (Unit)) (Unit) (Unit)) (Int) (Int)):=
 chk ((↑k5:Int)<(↑v1.length:Int)) <|
 chk ((↑k4:Int)<(↑((get v1 k5).length):Int)) <|
 chk (iQ (get (get v1 k5) k4) (k0<((get v1 k5).length))) <|
 bif (bif (get (get v1 k5) k4)then(get (get v1 k5) k0)else false)then
  bif (decide (s5<0))then
   some (.nxt (↑k5:Int))
  else
   chk (0≤s5∧s5<(↑((get v1 k5).length):Int)) <|
   bif (!(get (get v1 k5) s5.toNat))then
    some (.ret (.ret (.ret (↑k0:Int))))
   else
    some (.nxt s5)
 else
  some (.nxt s5)
def cJ(t5:Int):Option (Ctl (Ctl (Int) (Unit) (Unit)) (Unit) (Unit)):=
 some (.nxt ())
def cH(a0:(List x7))(v1:(List (List Bool)))(k0:Nat)(k4:Nat)(s4:Unit):Option (Ctl (Ctl (Int) (Unit) (Unit)) (Unit) (Unit)):=
 chk (a0.length≤9223372036854775807) <|
 B5 (F2 (cI v1 k4 k0) a0.length (-1)) (cJ)
def cK(t4:Unit):Option (Ctl (Int) (Unit) (Unit)):=
 some (.nxt ())
def cG(a0:(List x7))(v1:(List (List Bool)))(k0:Nat)(s0:Unit):Option (Ctl (Int) (Unit) (Unit)):=
 chk (k0≤9223372036854775807) <|
 B5 (F2 (cH a0 v1 k0) k0 ()) (cK)
def cM(t0:Unit):Option (Int):=
 some (-1)
def cx(n:Nat)(a0:(List x7)):Option (Int):=
 (ug n a0).bind fun v1=>
 chk (a0.length≤9223372036854775807) <|
 B5 (F2 (cG a0 v1) a0.length ()) (cM)
def M1(a0:y6)(k0:Nat)(k2:Nat)(s2:Unit):Option (Ctl (Ctl (w9) (Unit) (Unit)) (Unit) (Unit)):=
 bif (decide (((get (a0.C1.take k0) k2).name)=((get a0.C1 k0).name)))then
  some (.ret (.ret (w9.mk 7 (↑k0:Int))))
 else
  some (.nxt ())
def T2(a0:y6)(k0:Nat)(t2:Unit):Option (Ctl (w9) (Unit) (Unit)):=
 bif (bif (bif (bif (decide (((get a0.C1 k0).of_)<0))then true else(decide ((↑a0.types.length:Int)≤((get a0.C1 k0).of_))))then true else(decide (((get a0.C1 k0).value)<0)))then true else(decide ((↑a0.types.length:Int)≤((get a0.C1 k0).value))))then
  some (.ret (w9.mk 3 (↑k0:Int)))
 else
  some (.nxt ())
def M0(a0:y6)(k0:Nat)(s0:Unit):Option (Ctl (w9) (Unit) (Unit)):=
 (X5 ((get a0.C1 k0).name)).bind fun v6=>
 bif (!v6)then
  some (.ret (w9.mk 10 (↑k0:Int)))
 else
  chk (0≤(↑k0:Int)∧k0≤a0.C1.length) <|
  B5 (F2 (M1 a0 k0) ((a0.C1.take k0).length) ()) (T2 a0 k0)
def S9(t0:Unit):Option (w9):=
 some (w9.mk 0 0)
def Q0(n:Nat)(a0:y6):Option (w9):=
 bif (decide (40<(↑a0.C1.length:Int)))then
  some (w9.mk 2 (-1))
 else
  (L8 a0.types).bind fun v1=>
  bif (!decide (v1.code=0))then
   some v1
  else
   (cx n a0.types).bind fun v2=>
   bif (decide (0≤v2))then
    some (w9.mk 16 v2)
   else
    B5 (F2 (M0 a0) a0.C1.length ()) (S9)
def Y6(a1:B3)(k0:Nat)(a0:y6)(k2:Nat)(s2:Unit):Option (Ctl (Ctl (w9) (Unit) (Unit)) (Unit) (Unit)):=
 bif (bif (bif (bif (decide (((get ((get a1.nodes k0).links) k2).kV)<0))then true else(decide ((↑a0.C1.length:Int)≤((get ((get a1.nodes k0).links) k2).kV))))then true else(decide (((get ((get a1.nodes k0).links) k2).to_)<0)))then true else(decide ((↑a1.nodes.length:Int)≤((get ((get a1.nodes k0).links) k2).to_))))then
  some (.ret (.ret (w9.mk 3 (↑k0:Int))))
 else
  chk (iQ (decide (0<(↑k2:Int))) (0≤(wr .i64 ((↑k2:Int)-1)))∧iQ (decide (0<(↑k2:Int))) ((wr .i64 ((↑k2:Int)-1))<(↑(((get a1.nodes k0).links).length):Int))) <|
  bif (bif (decide (0<(↑k2:Int)))then(decide (((get ((get a1.nodes k0).links) k2).kV)≤((get ((get a1.nodes k0).links) ((wr .i64 ((↑k2:Int)-1)).toNat)).kV)))else false)then
   some (.ret (.ret (w9.mk 13 (↑k0:Int))))
  else
   some (.nxt ())
def Y7(t2:Unit):Option (Ctl (w9) (Unit) (Unit)):=
 some (.nxt ())
def Y5(a1:B3)(a0:y6)(k0:Nat)(s0:Unit):Option (Ctl (w9) (Unit) (Unit)):=
 bif (bif (decide (((get a1.nodes k0).type)<0))then true else(decide ((↑a0.types.length:Int)≤((get a1.nodes k0).type))))then
  some (.ret (w9.mk 3 (↑k0:Int)))
 else
  B5 (F2 (Y6 a1 k0 a0) (((get a1.nodes k0).links).length) ()) (Y7)
def cQ(t0:Unit):Option (w9):=
 some (w9.mk 0 0)
def W1(a0:y6)(a1:B3):Option (w9):=
 bif (bif (decide ((↑a1.nodes.length:Int)=0))then true else(decide (60<(↑a1.nodes.length:Int))))then
  some (w9.mk 2 (-2))
 else
  B5 (F2 (Y5 a1 a0) a1.nodes.length ()) (cQ)
def aj(k4:Nat)(a0:B3)(k6:Nat)(s6:(List Bool)):Option (Ctl (Ctl (Ctl (Int) ((List Bool)) ((List Bool))) ((List Bool)) ((List Bool))) ((List Bool)) ((List Bool))):=
 chk ((↑k4:Int)<(↑s6.length:Int)) <|
 bif (get s6 k4)then
  chk (0≤(get ((get a0.nodes k4).links) k6).to_∧(get ((get a0.nodes k4).links) k6).to_<(↑s6.length:Int)) <|
  eE (s6.set (((get ((get a0.nodes k4).links) k6).to_).toNat) true) fun c88=>
  some (.nxt c88)
 else
  some (.nxt s6)
def ak(t6:(List Bool)):Option (Ctl (Ctl (Int) ((List Bool)) ((List Bool))) ((List Bool)) ((List Bool))):=
 some (.nxt t6)
def ah(a0:B3)(k4:Nat)(s4:(List Bool)):Option (Ctl (Ctl (Int) ((List Bool)) ((List Bool))) ((List Bool)) ((List Bool))):=
 B5 (F2 (aj k4 a0) (((get a0.nodes k4).links).length) s4) (ak)
def aq(t4:(List Bool)):Option (Ctl (Int) ((List Bool)) ((List Bool))):=
 some (.nxt t4)
def Z9(a0:B3)(k0:Nat)(s0:(List Bool)):Option (Ctl (Int) ((List Bool)) ((List Bool))):=
 B5 (F2 (ah a0) a0.nodes.length s0) (aq)
def au(t0:(List Bool)):Option (Int):=
 (P6 t0 false).bind fun v91=>
 some v91
def S2(a0:B3):Option (Int):=
 chk (a0.nodes.length*1≤top∧a0.nodes.length≤top) <|
 chk (0<(↑a0.nodes.length:Int)) <|
 eE ((List.replicate a0.nodes.length (default:Bool)).set 0 true) fun c7=>
 chk (a0.nodes.length≤9223372036854775807) <|
 B5 (F2 (Z9 a0) a0.nodes.length c7) (au)
def W8(n:Nat)(a1:B3)(k0:Nat)(a0:y6)(k2:Nat)(s2:Unit):Option (Ctl (Ctl (w9) (Unit) (Unit)) (Unit) (Unit)):=
 chk (0≤(get ((get a1.nodes k0).links) k2).kV∧(get ((get a1.nodes k0).links) k2).kV<(↑a0.C1.length:Int)) <|
 (F8 n a0.types ((get a1.nodes k0).type) ((get a0.C1 (((get ((get a1.nodes k0).links) k2).kV).toNat)).of_)).bind fun v25=>
 chk (iQ (!(!v25)) (0≤(get ((get a1.nodes k0).links) k2).to_)∧iQ (!(!v25)) ((get ((get a1.nodes k0).links) k2).to_<(↑a1.nodes.length:Int))) <|
 (gd (!(!v25)) (F8 n a0.types ((get a1.nodes (((get ((get a1.nodes k0).links) k2).to_).toNat)).type) ((get a0.C1 (((get ((get a1.nodes k0).links) k2).kV).toNat)).value)) default).bind fun v29=>
 bif (bif (!v25)then true else(!v29))then
  some (.ret (.ret (w9.mk 12 (↑k0:Int))))
 else
  some (.nxt ())
def W9(t2:Unit):Option (Ctl (w9) (Unit) (Unit)):=
 some (.nxt ())
def W7(n:Nat)(a1:B3)(a0:y6)(k0:Nat)(s0:Unit):Option (Ctl (w9) (Unit) (Unit)):=
 B5 (F2 (W8 n a1 k0 a0) (((get a1.nodes k0).links).length) ()) (W9)
def X0(a1:B3)(t0:Unit):Option (w9):=
 (S2 a1).bind fun v30=>
 bif (decide (0≤v30))then
  some (w9.mk 5 v30)
 else
  some (w9.mk 0 0)
def L1(n:Nat)(a0:y6)(a1:B3):Option (w9):=
 (W1 a0 a1).bind fun v1=>
 bif (!decide (v1.code=0))then
  some v1
 else
  B5 (F2 (W7 n a1 a0) a1.nodes.length ()) (X0 a1)
def bP(a0:B3)(a1:Int)(a2:Int)(k0:Nat)(s0:Unit):Option (Ctl (Int) (Unit) (Unit)):=
 bif (decide (((get ((get a0.nodes a1.toNat).links) k0).kV)=a2))then
  some (.ret ((get ((get a0.nodes a1.toNat).links) k0).to_))
 else
  some (.nxt ())
def bQ(t0:Unit):Option (Int):=
 some (-1)
def bH(a0:B3)(a1:Int)(a2:Int):Option (Int):=
 chk (0≤a1∧a1<(↑a0.nodes.length:Int)) <|
 B5 (F2 (bP a0 a1 a2) (((get a0.nodes a1.toNat).links).length) ()) (bQ)
def bI(a0:w6):Option (Bool):=
 some (bif (decide (a0.base=[]))then(decide ((↑a0.args.length:Int)=0))else false)
def dI(a0:Bs)(s0:Int):Option (Ctl (Bool) (Int) (Unit)):=
 bif (decide (s0<(↑a0.length:Int)))then
  chk (0≤s0∧s0<(↑a0.length:Int)) <|
  bif (bif (!(bif (decide (97≤(B0 a0 s0)))then(decide ((B0 a0 s0)≤122))else false))then(bif (decide (s0=0))then true else(!(bif (bif (bif (decide (48≤(B0 a0 s0)))then(decide ((B0 a0 s0)≤57))else false)then true else(decide ((B0 a0 s0)=95)))then true else(decide ((B0 a0 s0)=45)))))else false)then
   some (.ret false)
  else
   some (.nxt (wr .i64 (s0+1)))
 else
  some (.brk ())
def gR(t0:Unit):Option (Bool):=
 some true
def dc(n:Nat)(a0:Bs):Option (Bool):=
 bif (bif (decide ((↑a0.length:Int)<1))then true else(decide (30<(↑a0.length:Int))))then
  some false
 else
  B5 (P4 (dI a0) n 0) (gR)
def F7(s0:(List y7)×Int×Nat):Option (Ctl (Int) ((List y7)×Int×Nat) (Unit)):=
 bif (decide (0<(↑s0.2.2:Int)))then
  chk (s0.2.2≤s0.1.length) <|
  chk (0≤(wr .i64 ((↑s0.2.2:Int)-1))∧(wr .i64 ((↑s0.2.2:Int)-1))<(↑s0.2.2:Int)) <|
  chk ((wr .i64 ((↑s0.2.2:Int)-1)).toNat≤s0.2.2) <|
  bif (bif (decide (200<(wr .i64 (s0.2.1+1))))then true else(decide (40<((get s0.1 ((wr .i64 ((↑s0.2.2:Int)-1)).toNat)).depth))))then
   some (.ret 1)
  else
   bif (decide (((get s0.1 ((wr .i64 ((↑s0.2.2:Int)-1)).toNat)).s.base)=[]))then
    bif (!decide ((↑(((get s0.1 ((wr .i64 ((↑s0.2.2:Int)-1)).toNat)).s.args).length):Int)=2))then
     some (.ret 5)
    else
     chk (1<(↑(((get s0.1 ((wr .i64 ((↑s0.2.2:Int)-1)).toNat)).s.args).length):Int)) <|
     chk (0<(↑(((get s0.1 ((wr .i64 ((↑s0.2.2:Int)-1)).toNat)).s.args).length):Int)) <|
     chk ((wr .i64 ((↑s0.2.2:Int)-1)).toNat≤s0.1.length) <|
     eE ((s0.1.take ((wr .i64 ((↑s0.2.2:Int)-1)).toNat))++[(y7.mk (get ((get s0.1 ((wr .i64 ((↑s0.2.2:Int)-1)).toNat)).s.args) 1) (wr .i64 (((get s0.1 ((wr .i64 ((↑s0.2.2:Int)-1)).toNat)).depth)+1))),(y7.mk (get ((get s0.1 ((wr .i64 ((↑s0.2.2:Int)-1)).toNat)).s.args) 0) (wr .i64 (((get s0.1 ((wr .i64 ((↑s0.2.2:Int)-1)).toNat)).depth)+1)))]) fun c25=>
     chk (c25.length*48≤top∧c25.length≤top) <|
     some (.nxt (c25,(wr .i64 (s0.2.1+1)),c25.length))
   else
    bif (bif (bif (!decide (((get s0.1 ((wr .i64 ((↑s0.2.2:Int)-1)).toNat)).s.base)=[101]))then(!decide (((get s0.1 ((wr .i64 ((↑s0.2.2:Int)-1)).toNat)).s.base)=[116]))else false)then true else(!decide ((↑(((get s0.1 ((wr .i64 ((↑s0.2.2:Int)-1)).toNat)).s.args).length):Int)=0)))then
     some (.ret 5)
    else
     some (.nxt (s0.1,(wr .i64 (s0.2.1+1)),(wr .i64 ((↑s0.2.2:Int)-1)).toNat))
 else
  some (.brk ())
def X1(t0:Unit):Option (Int):=
 some 0
def U4(n:Nat)(a0:w6):Option (Int):=
 B5 (P4 (F7) n ([(y7.mk a0 1)],0,1)) (X1)
def N8(a0:(List B9))(s0:Int×Int):Option (Ctl (Int) (Int×Int) (Unit)):=
 bif (decide (0≤s0.2))then
  chk (0≤s0.2∧s0.2<(↑a0.length:Int)) <|
  bif (decide (((get a0 s0.2.toNat).kind)=3))then
   bif (decide (s0.1=0))then
    some (.ret s0.2)
   else
    some (.nxt ((wr .i64 (s0.1-1)),(get a0 s0.2.toNat).up))
  else
   some (.nxt (s0.1,(get a0 s0.2.toNat).up))
 else
  some (.brk ())
def fO(t0:Unit):Option (Int):=
 some (-1)
def X7(n:Nat)(a0:(List B9))(a1:Int):Option (Int):=
 chk (0≤a1∧a1<(↑a0.length:Int)) <|
 B5 (P4 (N8 a0) n ((get a0 a1.toNat).index,(get a0 a1.toNat).up)) (fO)
def jf(a0:w6)(a1:w6):Option (w6):=
 some (w6.mk [] [a0,a1])
def H6:Nat→(w6)→Option (Bs)
 |0,_=>none
 |n+1,a0=>
  bif (!decide (a0.base=[]))then
   some a0.base
  else
   chk (0<(↑a0.args.length:Int)) <|
   (H6 n (get a0.args 0)).bind fun v2=>
   chk (nD [40] v2) <|
   chk (nD (zT [40] v2) [32]) <|
   chk (1<(↑a0.args.length:Int)) <|
   (H6 n (get a0.args 1)).bind fun v6=>
   chk (nD (zT (zT [40] v2) [32]) v6) <|
   chk (nD (zT (zT (zT [40] v2) [32]) v6) [41]) <|
   some (zT (zT (zT (zT [40] v2) [32]) v6) [41])
def aA(n:Nat)(a0:w6)(a1:w6):Option (Bool):=
 (H6 n a0).bind fun v1=>
 (H6 n a1).bind fun v2=>
 some (decide (v1=v2))
def S4(n:Nat)(v1:(List B9))(s0:(List w6)×Int):Option (Ctl (w6×Bool) ((List w6)×Int) ((List w6))):=
 bif (decide (0≤s0.2))then
  chk (0≤s0.2∧s0.2<(↑v1.length:Int)) <|
  bif (decide (((get v1 s0.2.toNat).kind)=1))then
   chk (s0.2<(↑s0.1.length:Int)) <|
   eE (s0.1.set s0.2.toNat ((get v1 s0.2.toNat).typ)) fun c54=>
   some (.nxt (c54,(wr .i64 (s0.2-1))))
  else
   bif (decide (((get v1 s0.2.toNat).kind)=2))then
    (X7 n v1 s0.2).bind fun v57=>
    chk (0≤v57∧v57<(↑v1.length:Int)) <|
    chk (s0.2<(↑s0.1.length:Int)) <|
    eE (s0.1.set s0.2.toNat ((get v1 v57.toNat).typ)) fun c63=>
    some (.nxt (c63,(wr .i64 (s0.2-1))))
   else
    bif (decide (((get v1 s0.2.toNat).kind)=3))then
     chk (0<(↑(((get v1 s0.2.toNat).kids).length):Int)) <|
     chk (0≤(get ((get v1 s0.2.toNat).kids) 0)∧(get ((get v1 s0.2.toNat).kids) 0)<(↑s0.1.length:Int)) <|
     (jf ((get v1 s0.2.toNat).typ) (get s0.1 ((get ((get v1 s0.2.toNat).kids) 0).toNat))).bind fun v71=>
     chk (s0.2<(↑s0.1.length:Int)) <|
     eE (s0.1.set s0.2.toNat v71) fun c75=>
     some (.nxt (c75,(wr .i64 (s0.2-1))))
    else
     bif (decide (((get v1 s0.2.toNat).kind)=4))then
      chk (0<(↑(((get v1 s0.2.toNat).kids).length):Int)) <|
      chk (0≤(get ((get v1 s0.2.toNat).kids) 0)∧(get ((get v1 s0.2.toNat).kids) 0)<(↑s0.1.length:Int)) <|
      chk (1<(↑(((get v1 s0.2.toNat).kids).length):Int)) <|
      chk (0≤(get ((get v1 s0.2.toNat).kids) 1)∧(get ((get v1 s0.2.toNat).kids) 1)<(↑s0.1.length:Int)) <|
      chk (iQ (!(bif (!decide (((get s0.1 ((get ((get v1 s0.2.toNat).kids) 0).toNat)).base)=[]))then true else(!decide ((↑(((get s0.1 ((get ((get v1 s0.2.toNat).kids) 0).toNat)).args).length):Int)=2)))) (0<(↑(((get s0.1 ((get ((get v1 s0.2.toNat).kids) 0).toNat)).args).length):Int))) <|
      (gd (!(bif (!decide (((get s0.1 ((get ((get v1 s0.2.toNat).kids) 0).toNat)).base)=[]))then true else(!decide ((↑(((get s0.1 ((get ((get v1 s0.2.toNat).kids) 0).toNat)).args).length):Int)=2)))) (aA n (get ((get s0.1 ((get ((get v1 s0.2.toNat).kids) 0).toNat)).args) 0) (get s0.1 ((get ((get v1 s0.2.toNat).kids) 1).toNat))) default).bind fun v90=>
      bif (bif (bif (!decide (((get s0.1 ((get ((get v1 s0.2.toNat).kids) 0).toNat)).base)=[]))then true else(!decide ((↑(((get s0.1 ((get ((get v1 s0.2.toNat).kids) 0).toNat)).args).length):Int)=2)))then true else(!v90))then
       some (.ret ((w6.mk [] []),false))
      else
       chk (1<(↑(((get s0.1 ((get ((get v1 s0.2.toNat).kids) 0).toNat)).args).length):Int)) <|
       chk (s0.2<(↑s0.1.length:Int)) <|
       eE (s0.1.set s0.2.toNat (get ((get s0.1 ((get ((get v1 s0.2.toNat).kids) 0).toNat)).args) 1)) fun c95=>
       some (.nxt (c95,(wr .i64 (s0.2-1))))
     else
      some (.nxt (s0.1,(wr .i64 (s0.2-1))))
 else
  some (.brk s0.1)
def bR(t0:(List w6)):Option (w6×Bool):=
 chk (0<(↑t0.length:Int)) <|
 some ((get t0 0),true)
def bJ(n:Nat)(a0:x9):Option (w6×Bool):=
 (JC n a0).bind fun v1=>
 chk (v1.length*40≤top∧v1.length≤top) <|
 B5 (P4 (S4 n v1) n ((List.replicate v1.length (default:w6)),(wr .i64 ((↑v1.length:Int)-1)))) (bR)
def av(s0:(List y3)×Int×Nat)(j5:Int)(s6:(List y3)×Int×Nat):Option (Ctl (Ctl (w9) ((List y3)×Int×Nat) (Unit)) ((List y3)×Int×Nat) ((List y3)×Nat)):=
 bif (decide (0≤s6.2.1))then
  chk (0≤s6.2.1∧s6.2.1<(↑(((get s0.1 ((wr .i64 ((↑s0.2.2:Int)-1)).toNat)).t.args).length):Int)) <|
  chk (s6.2.2≤s6.1.length) <|
  eE ((s6.1.take s6.2.2)++[(y3.mk (get ((get s0.1 ((wr .i64 ((↑s0.2.2:Int)-1)).toNat)).t.args) s6.2.1.toNat) (wr .i64 (((get s0.1 ((wr .i64 ((↑s0.2.2:Int)-1)).toNat)).depth)+1)) j5)]) fun c57=>
  chk (c57.length*112≤top∧c57.length≤top) <|
  some (.nxt (c57,(wr .i64 (s6.2.1-1)),c57.length))
 else
  some (.brk (s6.1,s6.2.2))
def ay(s0:(List y3)×Int×Nat)(t6:(List y3)×Nat):Option (Ctl (w9) ((List y3)×Int×Nat) (Unit)):=
 some (.nxt (t6.1,(wr .i64 (s0.2.1+1)),t6.2))
def N7(n:Nat)(s0:(List y3)×Int×Nat)(j5:Int):Option (Ctl (w9) ((List y3)×Int×Nat) (Unit)):=
 B5 (P4 (av s0 j5) n (s0.1,(wr .i64 ((↑(((get s0.1 ((wr .i64 ((↑s0.2.2:Int)-1)).toNat)).t.args).length):Int)-1)),(wr .i64 ((↑s0.2.2:Int)-1)).toNat)) (ay s0)
def D1(n:Nat)(s0:(List y3)×Int×Nat)(j4:Int):Option (Ctl (w9) ((List y3)×Int×Nat) (Unit)):=
 bif (!decide (j4=0))then
  some (.ret (w9.mk j4 s0.2.1))
 else
  bif (decide (((get s0.1 ((wr .i64 ((↑s0.2.2:Int)-1)).toNat)).t.kind)=3))then
   N7 n s0 (wr .i64 (((get s0.1 ((wr .i64 ((↑s0.2.2:Int)-1)).toNat)).bound)+1))
  else
   N7 n s0 ((get s0.1 ((wr .i64 ((↑s0.2.2:Int)-1)).toNat)).bound)
def C6(n:Nat)(s0:(List y3)×Int×Nat):Option (Ctl (w9) ((List y3)×Int×Nat) (Unit)):=
 bif (decide (0<(↑s0.2.2:Int)))then
  chk (s0.2.2≤s0.1.length) <|
  chk (0≤(wr .i64 ((↑s0.2.2:Int)-1))∧(wr .i64 ((↑s0.2.2:Int)-1))<(↑s0.2.2:Int)) <|
  chk ((wr .i64 ((↑s0.2.2:Int)-1)).toNat≤s0.2.2) <|
  bif (bif (decide (200≤s0.2.1))then true else(decide (40<((get s0.1 ((wr .i64 ((↑s0.2.2:Int)-1)).toNat)).depth))))then
   D1 n s0 1
  else
   bif (bif (decide (((get s0.1 ((wr .i64 ((↑s0.2.2:Int)-1)).toNat)).t.kind)<1))then true else(decide (4<((get s0.1 ((wr .i64 ((↑s0.2.2:Int)-1)).toNat)).t.kind))))then
    D1 n s0 4
   else
    chk (0≤(get s0.1 ((wr .i64 ((↑s0.2.2:Int)-1)).toNat)).t.kind∧(get s0.1 ((wr .i64 ((↑s0.2.2:Int)-1)).toNat)).t.kind<5) <|
    (gd ((bif (bif (decide ((↑(((get s0.1 ((wr .i64 ((↑s0.2.2:Int)-1)).toNat)).t.args).length):Int)=(get [0,0,0,1,2] (((get s0.1 ((wr .i64 ((↑s0.2.2:Int)-1)).toNat)).t.kind).toNat))))then(bif (decide (((get s0.1 ((wr .i64 ((↑s0.2.2:Int)-1)).toNat)).t.kind)=1))then true else(decide (((get s0.1 ((wr .i64 ((↑s0.2.2:Int)-1)).toNat)).t.name)=[])))else false)then(bif (decide (((get s0.1 ((wr .i64 ((↑s0.2.2:Int)-1)).toNat)).t.kind)=2))then true else(decide (((get s0.1 ((wr .i64 ((↑s0.2.2:Int)-1)).toNat)).t.index)=0)))else false)&&(!(bif (decide (((get s0.1 ((wr .i64 ((↑s0.2.2:Int)-1)).toNat)).t.kind)=1))then true else(decide (((get s0.1 ((wr .i64 ((↑s0.2.2:Int)-1)).toNat)).t.kind)=3))))) (bI ((get s0.1 ((wr .i64 ((↑s0.2.2:Int)-1)).toNat)).t.type)) default).bind fun v41=>
    bif (!(bif (bif (bif (decide ((↑(((get s0.1 ((wr .i64 ((↑s0.2.2:Int)-1)).toNat)).t.args).length):Int)=(get [0,0,0,1,2] (((get s0.1 ((wr .i64 ((↑s0.2.2:Int)-1)).toNat)).t.kind).toNat))))then(bif (decide (((get s0.1 ((wr .i64 ((↑s0.2.2:Int)-1)).toNat)).t.kind)=1))then true else(decide (((get s0.1 ((wr .i64 ((↑s0.2.2:Int)-1)).toNat)).t.name)=[])))else false)then(bif (decide (((get s0.1 ((wr .i64 ((↑s0.2.2:Int)-1)).toNat)).t.kind)=2))then true else(decide (((get s0.1 ((wr .i64 ((↑s0.2.2:Int)-1)).toNat)).t.index)=0)))else false)then(bif (bif (decide (((get s0.1 ((wr .i64 ((↑s0.2.2:Int)-1)).toNat)).t.kind)=1))then true else(decide (((get s0.1 ((wr .i64 ((↑s0.2.2:Int)-1)).toNat)).t.kind)=3)))then true else v41)else false))then
     D1 n s0 5
    else
     (gd (decide (((get s0.1 ((wr .i64 ((↑s0.2.2:Int)-1)).toNat)).t.kind)=1)) (dc n ((get s0.1 ((wr .i64 ((↑s0.2.2:Int)-1)).toNat)).t.name)) default).bind fun v42=>
     bif (bif (decide (((get s0.1 ((wr .i64 ((↑s0.2.2:Int)-1)).toNat)).t.kind)=1))then(!v42)else false)then
      D1 n s0 10
     else
      (gd (bif (decide (((get s0.1 ((wr .i64 ((↑s0.2.2:Int)-1)).toNat)).t.kind)=1))then true else(decide (((get s0.1 ((wr .i64 ((↑s0.2.2:Int)-1)).toNat)).t.kind)=3))) (U4 n ((get s0.1 ((wr .i64 ((↑s0.2.2:Int)-1)).toNat)).t.type)) default).bind fun v43=>
      bif (bif (bif (decide (((get s0.1 ((wr .i64 ((↑s0.2.2:Int)-1)).toNat)).t.kind)=1))then true else(decide (((get s0.1 ((wr .i64 ((↑s0.2.2:Int)-1)).toNat)).t.kind)=3)))then(!decide (v43=0))else false)then
       D1 n s0 12
      else
       bif (bif (decide (((get s0.1 ((wr .i64 ((↑s0.2.2:Int)-1)).toNat)).t.kind)=2))then(bif (decide (((get s0.1 ((wr .i64 ((↑s0.2.2:Int)-1)).toNat)).t.index)<0))then true else(decide (((get s0.1 ((wr .i64 ((↑s0.2.2:Int)-1)).toNat)).bound)≤((get s0.1 ((wr .i64 ((↑s0.2.2:Int)-1)).toNat)).t.index))))else false)then
        D1 n s0 15
       else
        D1 n s0 0
 else
  some (.brk ())
def aB(n:Nat)(a0:x9)(t0:Unit):Option (w9):=
 (bJ n a0).bind fun v62=>
 bif (!v62.2)then
  some (w9.mk 12 (-1))
 else
  some (w9.mk 0 0)
def X8(n:Nat)(a0:x9):Option (w9):=
 B5 (P4 (C6 n) n ([(y3.mk a0 1 0)],0,1)) (aB n a0)
def N9(n:Nat)(a0:x9):Option (w9):=
 (X8 n a0).bind fun v1=>
 some v1
def K0(a1:x6)(k0:Nat)(s0:Unit):Option (Ctl (Int) (Unit) (Unit)):=
 (bH a1.graph 0 (↑k0:Int)).bind fun v2=>
 bif (!decide ((decide (0≤v2))=(decide ((↑k0:Int)≤a1.kids))))then
  some (.ret 5)
 else
  some (.nxt ())
def aC(n:Nat)(a1:x6)(t0:Unit):Option (Int):=
 (N9 n a1.meaning).bind fun v3=>
 some v3.code
def X9(n:Nat)(a0:y6)(a1:x6):Option (Int):=
 bif (bif (bif (bif (decide (a1.kids<1))then true else(decide (3<a1.kids)))then true else(decide (a1.weight<0)))then true else(decide (1000000<a1.weight)))then
  some 3
 else
  (L1 n a0 a1.graph).bind fun v1=>
  bif (!decide (v1.code=0))then
   some v1.code
  else
   B5 (F2 (K0 a1) 4 ()) (aC n a1)
def F1(j0:Int×Int×Int)(a0:Bs)(s1:Int×Int):Option (Ctl (Int) (Int×Int) (Int)):=
 bif (decide (s1.2<j0.1))then
  chk (0≤s1.2∧s1.2<(↑a0.length:Int)) <|
  bif (bif (decide ((B0 a0 s1.2)<128))then true else(decide (191<(B0 a0 s1.2))))then
   some (.ret 0)
  else
   some (.nxt ((wr .i64 ((wr .i64 ((wr .i64 (64*s1.1))+(wr .i64 (B0 a0 s1.2))))-128)),(wr .i64 (s1.2+1))))
 else
  some (.brk s1.1)
def Y8(j0:Int×Int×Int)(t1:Int):Option (Int):=
 bif (bif (bif (decide (t1<j0.2.1))then true else(decide (1114111<t1)))then true else(bif (decide (55296≤t1))then(decide (t1≤57343))else false))then
  some 0
 else
  some j0.1
def G1(n:Nat)(a0:Bs)(j0:Int×Int×Int):Option (Int):=
 bif (decide ((↑a0.length:Int)<j0.1))then
  some 0
 else
  B5 (P4 (F1 j0 a0) n (j0.2.2,1)) (Y8 j0)
def W2(n:Nat)(a0:Bs):Option (Int):=
 chk (0<(↑a0.length:Int)) <|
 bif (decide ((B0 a0 0)<128))then
  some 1
 else
  bif (bif (decide (194≤(B0 a0 0)))then(decide ((B0 a0 0)≤223))else false)then
   G1 n a0 (2,128,(wr .i64 ((wr .i64 (B0 a0 0))-192)))
  else
   bif (bif (decide (224≤(B0 a0 0)))then(decide ((B0 a0 0)≤239))else false)then
    G1 n a0 (3,2048,(wr .i64 ((wr .i64 (B0 a0 0))-224)))
   else
    bif (bif (decide (240≤(B0 a0 0)))then(decide ((B0 a0 0)≤244))else false)then
     G1 n a0 (4,65536,(wr .i64 ((wr .i64 (B0 a0 0))-240)))
    else
     some 0
def dJ(a0:Bs)(s0:Nat×Int):Option (Ctl (Bool) (Nat×Int) (Int)):=
 bif (decide (s0.1<a0.length))then
  chk (s0.1<a0.length) <|
  bif (bif (bif (bif (bif (bif (bif (bif (bif (decide ((rune a0 s0.1)=32))then true else(decide ((rune a0 s0.1)=9)))then true else(decide ((rune a0 s0.1)=10)))then true else(decide ((rune a0 s0.1)=40)))then true else(decide ((rune a0 s0.1)=41)))then true else(decide ((rune a0 s0.1)=91)))then true else(decide ((rune a0 s0.1)=93)))then true else(decide ((rune a0 s0.1)=44)))then true else(decide ((rune a0 s0.1)=59)))then
   some (.ret false)
  else
   some (.nxt ((s0.1+lR a0 s0.1),(wr .i64 (s0.2+1))))
 else
  some (.brk s0.2)
def dL(n:Nat)(a0:Bs)(s1:Int):Option (Ctl (Bool) (Int) (Unit)):=
 bif (decide (s1<(↑a0.length:Int)))then
  chk (0≤s1∧s1.toNat≤a0.length) <|
  (W2 n (a0.drop s1.toNat)).bind fun v8=>
  bif (decide (v8=0))then
   some (.ret false)
  else
   some (.nxt (wr .i64 (s1+v8)))
 else
  some (.brk ())
def gS(t1:Unit):Option (Bool):=
 some true
def dK(n:Nat)(a0:Bs)(t0:Int):Option (Bool):=
 bif (bif (decide (t0<1))then true else(decide (30<t0)))then
  some false
 else
  B5 (P4 (dL n a0) n 0) (gS)
def dn(n:Nat)(a0:Bs):Option (Bool):=
 B5 (P4 (dJ a0) n (0,0)) (dK n a0)
def aD(n:Nat)(a0:y6)(a1:C5):Option (Int):=
 (dn n a1.word).bind fun v1=>
 bif (!v1)then
  some 10
 else
  bif (bif (decide (a1.weight<0))then true else(decide (1000000<a1.weight)))then
   some 3
  else
   (L1 n a0 a1.graph).bind fun v2=>
   bif (!decide (v2.code=0))then
    some v2.code
   else
    (N9 n a1.meaning).bind fun v3=>
    some v3.code
def P0(a0:x5)(k0:Nat)(k1:Nat)(s1:Unit):Option (Ctl (Ctl (w9) (Unit) (Unit)) (Unit) (Unit)):=
 bif (decide (((get (a0.rules.take k0) k1).name)=((get a0.rules k0).name)))then
  some (.ret (.ret (w9.mk 7 (↑k0:Int))))
 else
  some (.nxt ())
def V1(n:Nat)(a0:x5)(k0:Nat)(t1:Unit):Option (Ctl (w9) (Unit) (Unit)):=
 (X9 n a0.hierarchy (get a0.rules k0)).bind fun v5=>
 bif (!decide (v5=0))then
  some (.ret (w9.mk v5 (↑k0:Int)))
 else
  some (.nxt ())
def V0(n:Nat)(a0:x5)(k0:Nat)(s0:Unit):Option (Ctl (w9) (Unit) (Unit)):=
 (X5 ((get a0.rules k0).name)).bind fun v2=>
 bif (!v2)then
  some (.ret (w9.mk 10 (↑k0:Int)))
 else
  chk (0≤(↑k0:Int)∧k0≤a0.rules.length) <|
  B5 (F2 (P0 a0 k0) ((a0.rules.take k0).length) ()) (V1 n a0 k0)
def V3(n:Nat)(a0:x5)(k2:Nat)(s2:Unit):Option (Ctl (w9) (Unit) (Unit)):=
 (aD n a0.hierarchy (get a0.I7 k2)).bind fun v6=>
 bif (!decide (v6=0))then
  some (.ret (w9.mk v6 (↑k2:Int)))
 else
  some (.nxt ())
def V4(n:Nat)(a0:x5)(t2:Unit):Option (w9):=
 (L1 n a0.hierarchy a0.start).bind fun v7=>
 bif (!decide (v7.code=0))then
  some (w9.mk v7.code (-1))
 else
  some (w9.mk 0 0)
def V2(n:Nat)(a0:x5)(t0:Unit):Option (w9):=
 B5 (F2 (V3 n a0) a0.I7.length ()) (V4 n a0)
def T3(n:Nat)(a0:x5):Option (w9):=
 (Q0 n a0.hierarchy).bind fun v1=>
 bif (!decide (v1.code=0))then
  some v1
 else
  bif (decide ((↑a0.hierarchy.C1.length:Int)≤3))then
   some (w9.mk 9 (-1))
  else
   bif (bif (decide (40<(↑a0.rules.length:Int)))then true else(decide (100<(↑a0.I7.length:Int))))then
    some (w9.mk 2 (-1))
   else
    B5 (F2 (V0 n a0) a0.rules.length ()) (V2 n a0)
def aW(self:(x5)→(w8)→(Int)→(Int)→(Int)→(Int)→Option (w9×Int×Int))(a0:x5)(a1:w8)(a2:Int)(j1:Int)(k3:Nat)(s3:Int×Int):Option (Ctl (w9×Int×Int) (Int×Int) (Int×Int)):=
 (self a0 (get a1.kids k3) (wr .i64 (a2+1)) j1 s3.1 s3.2).bind fun v4=>
 bif (!decide (v4.1.code=0))then
  some (.ret (v4.1,v4.2.1,v4.2.2))
 else
  some (.nxt (v4.2.1,v4.2.2))
def dM(t3:Int×Int):Option (w9×Int×Int):=
 some ((w9.mk 0 0),t3.1,t3.2)
def V8(self:(x5)→(w8)→(Int)→(Int)→(Int)→(Int)→Option (w9×Int×Int))(a0:x5)(a1:w8)(a2:Int)(j1:Int)(R2:Int)(j2:Int):Option (w9×Int×Int):=
 B5 (F2 (aW self a0 a1 a2 j1) a1.kids.length ((wr .i64 (R2+1)),j2)) (dM)
def R6(self:(x5)→(w8)→(Int)→(Int)→(Int)→(Int)→Option (w9×Int×Int))(R2:Int)(oa:Int)(j0:Int)(a0:x5)(a1:w8)(a2:Int)(j1:Int):Option (w9×Int×Int):=
 bif (decide (3<j1))then
  some ((w9.mk 14 R2),(wr .i64 (R2+1)),oa)
 else
  bif (decide (j0=0))then
   V8 self a0 a1 a2 j1 R2 (wr .i64 (oa+1))
  else
   V8 self a0 a1 a2 j1 R2 oa
def V7(self:(x5)→(w8)→(Int)→(Int)→(Int)→(Int)→Option (w9×Int×Int))(a1:w8)(R2:Int)(oa:Int)(a0:x5)(a2:Int)(a3:Int)(j0:Int):Option (w9×Int×Int):=
 bif (!decide ((↑a1.kids.length:Int)=j0))then
  some ((w9.mk 9 R2),(wr .i64 (R2+1)),oa)
 else
  bif (decide (j0=1))then
   R6 self R2 oa j0 a0 a1 a2 (wr .i64 (a3+1))
  else
   R6 self R2 oa j0 a0 a1 a2 0
def G2:Nat→(x5)→(w8)→(Int)→(Int)→(Int)→(Int)→Option (w9×Int×Int)
 |0,_,_,_,_,_,_=>none
 |n+1,a0,a1,a2,a3,R2,oa=>
  bif (bif (decide (200<(wr .i64 (R2+1))))then true else(decide (48<a2)))then
   some ((w9.mk 1 R2),(wr .i64 (R2+1)),oa)
  else
   bif (bif (bif (decide (a1.rule<(-1)))then true else(decide ((↑a0.rules.length:Int)≤a1.rule)))then true else(bif (decide (a1.rule=(-1)))then(bif (decide (a1.lex<0))then true else(decide ((↑a0.I7.length:Int)≤a1.lex)))else false))then
    some ((w9.mk 3 R2),(wr .i64 (R2+1)),oa)
   else
    bif (bif (decide (0≤a1.rule))then(!decide (a1.lex=0))else false)then
     some ((w9.mk 5 R2),(wr .i64 (R2+1)),oa)
    else
     bif (decide (0≤a1.rule))then
      chk (0≤a1.rule∧a1.rule<(↑a0.rules.length:Int)) <|
      V7 (G2 n) a1 R2 oa a0 a2 a3 ((get a0.rules a1.rule.toNat).kids)
     else
      V7 (G2 n) a1 R2 oa a0 a2 a3 0
def O1(n:Nat)(a0:x5)(a1:w8):Option (w9):=
 (G2 n a0 a1 1 0 0 0).bind fun v1=>
 bif (bif (decide (v1.1.code=0))then(decide (12<v1.2.2))else false)then
  some (w9.mk 2 (-2))
 else
  some v1.1
def bA(self:(x5)→(w8)→Option ((List Bs)))(a0:x5)(a1:w8)(k0:Nat)(s0:(List Bs)):Option (Ctl ((List Bs)) ((List Bs)) ((List Bs))):=
 (self a0 (get a1.kids k0)).bind fun v10=>
 eE (s0++v10) fun c11=>
 chk (c11.length*16≤top∧c11.length≤top) <|
 some (.nxt c11)
def bB(t0:(List Bs)):Option ((List Bs)):=
 some t0
def M6:Nat→(x5)→(w8)→Option ((List Bs))
 |0,_,_=>none
 |n+1,a0,a1=>
  bif (decide (a1.rule<0))then
   chk (0≤a1.lex∧a1.lex<(↑a0.I7.length:Int)) <|
   some [(get a0.I7 a1.lex.toNat).word]
  else
   B5 (F2 (bA (M6 n) a0 a1) a1.kids.length []) (bB)
def I9(v15:(List Bs))(v16:(List Bs))(s2:Int×Bool):Option (Ctl (Ctl (w9) (Int×Int×Int) (Unit)) (Int×Bool) (Bool)):=
 bif (bif (decide (s2.1<(↑v15.length:Int)))then s2.2 else false)then
  chk (0≤s2.1∧s2.1<(↑v15.length:Int)) <|
  chk (s2.1<(↑v16.length:Int)) <|
  some (.nxt ((wr .i64 (s2.1+1)),(decide ((get v15 s2.1.toNat)=(get v16 s2.1.toNat)))))
 else
  some (.brk s2.2)
def Y9(s0:Int×Int×Int)(v13:w9)(t2:Bool):Option (Ctl (w9) (Int×Int×Int) (Unit)):=
 bif (!t2)then
  some (.ret (w9.mk 16 s0.2.2))
 else
  some (.nxt (v13.code,v13.index,(wr .i64 (s0.2.2+1))))
def J0(n:Nat)(a1:(List w8))(a0:x5)(s0:Int×Int×Int):Option (Ctl (w9) (Int×Int×Int) (Unit)):=
 bif (decide (s0.2.2<(↑a1.length:Int)))then
  chk (0≤s0.2.2∧s0.2.2<(↑a1.length:Int)) <|
  (O1 n a0 (get a1 s0.2.2.toNat)).bind fun v13=>
  bif (!decide (v13.code=0))then
   some (.ret (w9.mk v13.code s0.2.2))
  else
   chk (0<(↑a1.length:Int)) <|
   (M6 n a0 (get a1 0)).bind fun v15=>
   (M6 n a0 (get a1 s0.2.2.toNat)).bind fun v16=>
   B5 (P4 (I9 v15 v16) n (0,(decide ((↑v15.length:Int)=(↑v16.length:Int))))) (Y9 s0 v13)
 else
  some (.brk ())
def S1(t0:Unit):Option (w9):=
 some (w9.mk 0 0)
def J3(n:Nat)(a0:x5)(a1:(List w8)):Option (w9):=
 (T3 n a0).bind fun v1=>
 bif (!decide (v1.code=0))then
  some v1
 else
  bif (decide (200<(↑a1.length:Int)))then
   some (w9.mk 2 (-2))
  else
   B5 (P4 (J0 n a1 a0) n (v1.code,v1.index,0)) (S1)
def P7(v30:(List w5))(s4:(List w5)×Int):Option (Ctl (Ctl ((List w5)) ((List w5)×Int×Int) ((List w5)×Int)) ((List w5)×Int) ((List w5))):=
 bif (decide (s4.2<(↑v30.length:Int)))then
  chk (0≤s4.2∧s4.2<(↑v30.length:Int)) <|
  eE (s4.1++[(get v30 s4.2.toNat)]) fun c41=>
  chk (c41.length*40≤top∧c41.length≤top) <|
  some (.nxt (c41,(wr .i64 (s4.2+1))))
 else
  some (.brk s4.1)
def cN(s0:(List w5)×Int×Int)(v30:(List w5))(t4:(List w5)):Option (Ctl ((List w5)) ((List w5)×Int×Int) ((List w5)×Int)):=
 some (.nxt (t4,(wr .i64 (s0.2.1+1)),(get v30 0).to_))
def U0(self:(w8)→(Int)→(Int)→Option ((List w5)))(n:Nat)(s0:(List w5)×Int×Int)(a0:w8)(j3:Int):Option (Ctl ((List w5)) ((List w5)×Int×Int) ((List w5)×Int)):=
 chk (0≤s0.2.1∧s0.2.1<(↑a0.kids.length:Int)) <|
 (self (get a0.kids s0.2.1.toNat) s0.2.2 j3).bind fun v30=>
 chk (0<(↑v30.length:Int)) <|
 B5 (P4 (P7 v30) n (s0.1,0)) (cN s0 v30)
def T9(self:(w8)→(Int)→(Int)→Option ((List w5)))(n:Nat)(a0:w8)(a2:Int)(s0:(List w5)×Int×Int):Option (Ctl ((List w5)) ((List w5)×Int×Int) ((List w5)×Int)):=
 bif (decide (s0.2.1<(↑a0.kids.length:Int)))then
  bif (decide ((↑a0.kids.length:Int)=1))then
   U0 self n s0 a0 (wr .i64 (a2+1))
  else
   U0 self n s0 a0 0
 else
  some (.brk (s0.1,s0.2.2))
def cO(t0:(List w5)×Int):Option ((List w5)):=
 chk (0<(↑t0.1.length:Int)) <|
 eE (t0.1.set 0 (w5.mk ((get t0.1 0).from_) t0.2 ((get t0.1 0).level) ((get t0.1 0).rule) ((get t0.1 0).lex))) fun c49=>
 some c49
def G9:Nat→(w8)→(Int)→(Int)→Option ((List w5))
 |0,_,_,_=>none
 |n+1,a0,a1,a2=>
  bif (decide (a0.rule<0))then
   some [(w5.mk a1 (wr .i64 (a1+1)) a2 a0.rule a0.lex)]
  else
   B5 (P4 (T9 (G9 n) n a0 a2) n ([(w5.mk a1 0 a2 a0.rule a0.lex)],0,a1)) (cO)
def R0(v1:(List w5))(a1:w5)(s0:Int):Option (Ctl (Bool) (Int) (Unit)):=
 bif (decide (s0<(↑v1.length:Int)))then
  chk (0≤s0∧s0<(↑v1.length:Int)) <|
  bif (decide ((get v1 s0.toNat).from_=a1.from_)&&(decide ((get v1 s0.toNat).to_=a1.to_)&&(decide ((get v1 s0.toNat).level=a1.level)&&(decide ((get v1 s0.toNat).rule=a1.rule)&&(decide ((get v1 s0.toNat).lex=a1.lex))))))then
   some (.ret true)
  else
   some (.nxt (wr .i64 (s0+1)))
 else
  some (.brk ())
def bw(t0:Unit):Option (Bool):=
 some false
def M5(n:Nat)(a0:w8)(a1:w5):Option (Bool):=
 (G9 n a0 0 0).bind fun v1=>
 B5 (P4 (R0 v1 a1) n 0) (bw)
def W5(a0:w5)(a1:w5):Option (Bool):=
 bif (!decide (a0.from_=a1.from_))then
  some (decide (a0.from_<a1.from_))
 else
  bif (!decide (a0.to_=a1.to_))then
   some (decide (a0.to_<a1.to_))
  else
   bif (!decide (a0.level=a1.level))then
    some (decide (a0.level<a1.level))
   else
    bif (!decide (a0.rule=a1.rule))then
     some (decide (a0.rule<a1.rule))
    else
     some (decide (a0.lex<a1.lex))
def K2(n:Nat)(a0:(List w8))(s11:(List w5)×Int)(v282:(List w5))(s15:Int×Int):Option (Ctl (Ctl (Ctl ((List w5)) ((List w5)×Int) ((List w5))) ((List w5)×Int) ((List w5))) (Int×Int) (Int)):=
 bif (decide (s15.2<(↑a0.length:Int)))then
  chk (0≤s15.2∧s15.2<(↑a0.length:Int)) <|
  chk (0≤s11.2∧s11.2<(↑v282.length:Int)) <|
  (M5 n (get a0 s15.2.toNat) (get v282 s11.2.toNat)).bind fun v381=>
  bif v381 then
   some (.nxt ((wr .i64 (s15.1+1)),(wr .i64 (s15.2+1))))
  else
   some (.nxt (s15.1,(wr .i64 (s15.2+1))))
 else
  some (.brk s15.1)
def K3(s11:(List w5)×Int)(v282:(List w5))(s16:Int×Bool):Option (Ctl (Ctl (Ctl ((List w5)) ((List w5)×Int) ((List w5))) ((List w5)×Int) ((List w5))) (Int×Bool) (Bool)):=
 bif (decide (s16.1<(↑s11.1.length:Int)))then
  chk (iQ (!s16.2) (0≤s16.1)∧iQ (!s16.2) (s16.1<(↑s11.1.length:Int))) <|
  chk (s16.1.toNat<s11.1.length) <|
  chk (iQ (!s16.2) (0≤s11.2)∧iQ (!s16.2) (s11.2<(↑v282.length:Int))) <|
  some (.nxt ((wr .i64 (s16.1+1)),(bif s16.2 then true else(decide ((get s11.1 s16.1.toNat).from_=(get v282 s11.2.toNat).from_)&&(decide ((get s11.1 s16.1.toNat).to_=(get v282 s11.2.toNat).to_)&&(decide ((get s11.1 s16.1.toNat).level=(get v282 s11.2.toNat).level)&&(decide ((get s11.1 s16.1.toNat).rule=(get v282 s11.2.toNat).rule)&&(decide ((get s11.1 s16.1.toNat).lex=(get v282 s11.2.toNat).lex)))))))))
 else
  some (.brk s16.2)
def K1(s17:(List w5)×Int):Option (Ctl (Ctl (Ctl ((List w5)) ((List w5)×Int) ((List w5))) ((List w5)×Int) ((List w5))) ((List w5)×Int) ((List w5))):=
 chk (iQ (decide (0<s17.2)) (0≤s17.2)∧iQ (decide (0<s17.2)) (s17.2<(↑s17.1.length:Int))) <|
 chk (s17.2.toNat<s17.1.length) <|
 chk (iQ (decide (0<s17.2)) (0≤(wr .i64 (s17.2-1)))∧iQ (decide (0<s17.2)) ((wr .i64 (s17.2-1))<(↑s17.1.length:Int))) <|
 chk ((wr .i64 (s17.2-1)).toNat<s17.1.length) <|
 (gd (decide (0<s17.2)) (W5 (get s17.1 s17.2.toNat) (get s17.1 ((wr .i64 (s17.2-1)).toNat))) default).bind fun v449=>
 bif (bif (decide (0<s17.2))then v449 else false)then
  chk (0≤(wr .i64 (s17.2-1))∧(wr .i64 (s17.2-1))<(↑s17.1.length:Int)) <|
  chk (0≤s17.2∧s17.2<(↑s17.1.length:Int)) <|
  eE (s17.1.set s17.2.toNat (get s17.1 ((wr .i64 (s17.2-1)).toNat))) fun c460=>
  eE (c460.set ((wr .i64 (s17.2-1)).toNat) (get s17.1 s17.2.toNat)) fun c465=>
  some (.nxt (c465,(wr .i64 (s17.2-1))))
 else
  some (.brk s17.1)
def aI(s11:(List w5)×Int)(t17:(List w5)):Option (Ctl (Ctl ((List w5)) ((List w5)×Int) ((List w5))) ((List w5)×Int) ((List w5))):=
 some (.nxt (t17,(wr .i64 (s11.2+1))))
def aH(n:Nat)(t15:Int)(a0:(List w8))(s11:(List w5)×Int)(v282:(List w5))(t16:Bool):Option (Ctl (Ctl ((List w5)) ((List w5)×Int) ((List w5))) ((List w5)×Int) ((List w5))):=
 bif (bif (decide (t15=(↑a0.length:Int)))then true else t16)then
  some (.nxt (s11.1,(wr .i64 (s11.2+1))))
 else
  chk (0≤s11.2∧s11.2<(↑v282.length:Int)) <|
  eE (s11.1++[(get v282 s11.2.toNat)]) fun c401=>
  chk (c401.length*40≤top∧c401.length≤top) <|
  B5 (P4 (K1) n (c401,(wr .i64 ((↑c401.length:Int)-1)))) (aI s11)
def aG(n:Nat)(s11:(List w5)×Int)(v282:(List w5))(a0:(List w8))(t15:Int):Option (Ctl (Ctl ((List w5)) ((List w5)×Int) ((List w5))) ((List w5)×Int) ((List w5))):=
 B5 (P4 (K3 s11 v282) n (0,false)) (aH n t15 a0 s11 v282)
def K4(n:Nat)(v282:(List w5))(a0:(List w8))(s11:(List w5)×Int):Option (Ctl (Ctl ((List w5)) ((List w5)×Int) ((List w5))) ((List w5)×Int) ((List w5))):=
 bif (decide (s11.2<(↑v282.length:Int)))then
  B5 (P4 (K2 n a0 s11 v282) n (0,0)) (aG n s11 v282 a0)
 else
  some (.brk s11.1)
def aJ(s0:(List w5)×Int)(t11:(List w5)):Option (Ctl ((List w5)) ((List w5)×Int) ((List w5))):=
 some (.nxt (t11,(wr .i64 (s0.2+1))))
def P2(n:Nat)(a0:(List w8))(s0:(List w5)×Int):Option (Ctl ((List w5)) ((List w5)×Int) ((List w5))):=
 bif (decide (s0.2<(↑a0.length:Int)))then
  chk (0≤s0.2∧s0.2<(↑a0.length:Int)) <|
  (G9 n (get a0 s0.2.toNat) 0 0).bind fun v282=>
  B5 (P4 (K4 n v282 a0) n (s0.1,0)) (aJ s0)
 else
  some (.brk s0.1)
def aS(t0:(List w5)):Option ((List w5)):=
 some t0
def U1(n:Nat)(a0:(List w8)):Option ((List w5)):=
 B5 (P4 (P2 n a0) n ([],0)) (aS)
def E7(v2:(List w5)×w9)(v4:(List w5))(s0:Int):Option (Ctl (Bool) (Int) (Unit)):=
 bif (decide (s0<(↑v2.1.length:Int)))then
  chk (0≤s0∧s0<(↑v2.1.length:Int)) <|
  chk (s0<(↑v4.length:Int)) <|
  bif (!(decide ((get v2.1 s0.toNat).from_=(get v4 s0.toNat).from_)&&(decide ((get v2.1 s0.toNat).to_=(get v4 s0.toNat).to_)&&(decide ((get v2.1 s0.toNat).level=(get v4 s0.toNat).level)&&(decide ((get v2.1 s0.toNat).rule=(get v4 s0.toNat).rule)&&(decide ((get v2.1 s0.toNat).lex=(get v4 s0.toNat).lex)))))))then
   some (.ret false)
  else
   some (.nxt (wr .i64 (s0+1)))
 else
  some (.brk ())
def O9(t0:Unit):Option (Bool):=
 some true
def K6(n:Nat)(a0:x5)(a1:(List w8)):Option (Bool):=
 (E0 n).bind fun v1=>
 bif (!v1)then
  some false
 else
  (dx n a0 a1).bind fun v2=>
  (J3 n a0 a1).bind fun v3=>
  bif (!decide (v3.code=0))then
   some (bif (decide (v2.2.code=v3.code)&&(decide (v2.2.index=v3.index)))then(decide ((↑v2.1.length:Int)=0))else false)
  else
   (U1 n a1).bind fun v4=>
   bif (bif (!decide (v2.2.code=0))then true else(!decide ((↑v2.1.length:Int)=(↑v4.length:Int))))then
    some false
   else
    B5 (P4 (E7 v2 v4) n 0) (O9)
def W0(n:Nat)(a1:(List w7))(s0:(List Int)×Int)(a0:(List w8))(s3:Bool×Int):Option (Ctl (Ctl ((List Int)) ((List Int)×Int) ((List Int))) (Bool×Int) (Bool)):=
 bif (decide (s3.2<(↑a1.length:Int)))then
  chk (iQ s3.1 (0≤s0.2)∧iQ s3.1 (s0.2<(↑a0.length:Int))) <|
  chk (iQ s3.1 (0≤s3.2)∧iQ s3.1 (s3.2<(↑a1.length:Int))) <|
  (gd s3.1 (M5 n (get a0 s0.2.toNat) ((get a1 s3.2.toNat).what)) default).bind fun v61=>
  chk (iQ s3.1 (0≤s3.2)∧iQ s3.1 (s3.2<(↑a1.length:Int))) <|
  some (.nxt ((bif s3.1 then(decide (v61=((get a1 s3.2.toNat).yes)))else false),(wr .i64 (s3.2+1))))
 else
  some (.brk s3.1)
def dO(s0:(List Int)×Int)(t3:Bool):Option (Ctl ((List Int)) ((List Int)×Int) ((List Int))):=
 bif t3 then
  eE (s0.1++[s0.2]) fun c66=>
  chk (c66.length*8≤top∧c66.length≤top) <|
  some (.nxt (c66,(wr .i64 (s0.2+1))))
 else
  some (.nxt (s0.1,(wr .i64 (s0.2+1))))
def V9(n:Nat)(a0:(List w8))(a1:(List w7))(s0:(List Int)×Int):Option (Ctl ((List Int)) ((List Int)×Int) ((List Int))):=
 bif (decide (s0.2<(↑a0.length:Int)))then
  B5 (P4 (W0 n a1 s0 a0) n (true,0)) (dO s0)
 else
  some (.brk s0.1)
def gT(t0:(List Int)):Option ((List Int)):=
 some t0
def bk(n:Nat)(a0:(List w8))(a1:(List w7)):Option ((List Int)):=
 B5 (P4 (V9 n a0 a1) n ([],0)) (gT)
def D0(n:Nat)(v2:(List Int)×w9)(a1:(List w8))(a2:(List w7))(j0:Int×Int):Option (Bool):=
 bif (!decide (j0.1=0))then
  some (bif (decide (v2.2.code=j0.1)&&(decide (v2.2.index=j0.2)))then(decide ((↑v2.1.length:Int)=0))else false)
 else
  (gd (decide (v2.2.code=0)) (bk n a1 a2) default).bind fun v4=>
  (gd (decide (v2.2.code=0)) (J2 n v2.1 v4) default).bind fun v5=>
  some (bif (decide (v2.2.code=0))then v5 else false)
def H7(n:Nat)(a0:x5)(a1:(List w8))(a2:(List w7)):Option (Bool):=
 (E0 n).bind fun v1=>
 bif (!v1)then
  some false
 else
  (J4 n a0 a1 a2).bind fun v2=>
  (J3 n a0 a1).bind fun v3=>
  bif (bif (decide (v3.code=0))then(decide (300<(↑a2.length:Int)))else false)then
   D0 n v2 a1 a2 (2, -3)
  else
   D0 n v2 a1 a2 (v3.code,v3.index)
def K5(n:Nat)(v3:(List Int))(v2:(List (List w5)))(v4:(List w5))(k0:Nat)(k2:Nat)(s2:Int):Option (Ctl (Ctl (w5×Bool×w9) (Int×Int×Int×Int×Int×Int×Bool) (Int×Int×Int×Int×Int×Int×Bool)) (Int) (Int)):=
 chk (0≤(get v3 k2)∧(get v3 k2)<(↑v2.length:Int)) <|
 (S0 n (get v2 ((get v3 k2).toNat)) (w7.mk (get v4 k0) true)).bind fun v16=>
 bif v16 then
  some (.nxt (wr .i64 (s2+1)))
 else
  some (.nxt s2)
def dy(v3:(List Int))(s0:Int×Int×Int×Int×Int×Int×Bool)(v4:(List w5))(k0:Nat)(t2:Int):Option (Ctl (w5×Bool×w9) (Int×Int×Int×Int×Int×Int×Bool) (Int×Int×Int×Int×Int×Int×Bool)):=
 bif (bif (decide ((max t2 (wr .i64 ((↑v3.length:Int)-t2)))<(↑v3.length:Int)))then(bif (!s0.2.2.2.2.2.2)then true else(decide ((max t2 (wr .i64 ((↑v3.length:Int)-t2)))<s0.2.2.2.2.2.1)))else false)then
  some (.nxt ((get v4 k0).from_,(get v4 k0).to_,(get v4 k0).level,(get v4 k0).rule,(get v4 k0).lex,(max t2 (wr .i64 ((↑v3.length:Int)-t2))),true))
 else
  some (.nxt (s0.1,s0.2.1,s0.2.2.1,s0.2.2.2.1,s0.2.2.2.2.1,s0.2.2.2.2.2.1,s0.2.2.2.2.2.2))
def P8(n:Nat)(v3:(List Int))(v2:(List (List w5)))(v4:(List w5))(k0:Nat)(s0:Int×Int×Int×Int×Int×Int×Bool):Option (Ctl (w5×Bool×w9) (Int×Int×Int×Int×Int×Int×Bool) (Int×Int×Int×Int×Int×Int×Bool)):=
 B5 (F2 (K5 n v3 v2 v4 k0) v3.length 0) (dy v3 s0 v4 k0)
def dz(t0:Int×Int×Int×Int×Int×Int×Bool):Option (w5×Bool×w9):=
 some ((w5.mk t0.1 t0.2.1 t0.2.2.1 t0.2.2.2.1 t0.2.2.2.2.1),t0.2.2.2.2.2.2,(w9.mk 0 0))
def aO(n:Nat)(a0:x5)(a1:(List w8))(a2:(List w7)):Option (w5×Bool×w9):=
 (bZ n a0 a1 a2).bind fun v1=>
 bif (!decide (v1.code=0))then
  some ((w5.mk 0 0 0 0 0),false,v1)
 else
  (X2 n a1).bind fun v2=>
  (L4 n v2 a2).bind fun v3=>
  (Y0 n v2).bind fun v4=>
  B5 (F2 (P8 n v3 v2 v4) v4.length (0,0,0,0,0,0,false)) (dz)
def S5(O2:(w8)→(w8)→Option (Bool))(a1:(List w8))(a0:(List w8))(k0:Nat)(s0:Unit):Option (Ctl (Bool) (Unit) (Unit)):=
 chk ((↑k0:Int)<(↑a1.length:Int)) <|
 (O2 (get a0 k0) (get a1 k0)).bind fun v2=>
 bif (!v2)then
  some (.ret false)
 else
  some (.nxt ())
def bV(t0:Unit):Option (Bool):=
 some true
def eT(O2:(w8)→(w8)→Option (Bool))(a0:(List w8))(a1:(List w8)):Option (Bool):=
 bif (!decide ((↑a0.length:Int)=(↑a1.length:Int)))then
  some false
 else
  B5 (F2 (S5 O2 a1 a0) a0.length ()) (bV)
def I8:Nat→(w8)→(w8)→Option (Bool)
 |0,_,_=>none
 |n+1,a0,a1=>
  (gd (bif (decide (a0.rule=a1.rule))then(decide (a0.lex=a1.lex))else false) (eT (I8 n) a0.kids a1.kids) default).bind fun v1=>
  some (bif (bif (decide (a0.rule=a1.rule))then(decide (a0.lex=a1.lex))else false)then v1 else false)
def G0(n:Nat)(a1:(List w8))(a2:Int)(s3:(List Int)×Int):Option (Ctl (Ctl (Bool) ((List w7)×Int) (Unit)) ((List Int)×Int) ((List Int))):=
 bif (decide (s3.2<(↑a1.length:Int)))then
  chk (0≤s3.2∧s3.2<(↑a1.length:Int)) <|
  chk (0≤a2∧a2<(↑a1.length:Int)) <|
  (I8 n (get a1 s3.2.toNat) (get a1 a2.toNat)).bind fun v117=>
  bif v117 then
   eE (s3.1++[s3.2]) fun c119=>
   chk (c119.length*8≤top∧c119.length≤top) <|
   some (.nxt (c119,(wr .i64 (s3.2+1))))
  else
   some (.nxt (s3.1,(wr .i64 (s3.2+1))))
 else
  some (.brk s3.1)
def L6(n:Nat)(v91:(List Int)×w9)(t3:(List Int)):Option (Ctl (Bool) ((List w7)×Int) (Unit)):=
 (J2 n v91.1 t3).bind fun v124=>
 some (.ret v124)
def D2(n:Nat)(a1:(List w8))(a0:x5)(a2:Int)(s0:(List w7)×Int):Option (Ctl (Bool) ((List w7)×Int) (Unit)):=
 bif (decide (s0.2≤(↑a1.length:Int)))then
  (aO n a0 a1 s0.1).bind fun v90=>
  bif (!decide (v90.2.2.code=0))then
   some (.ret true)
  else
   bif (!v90.2.1)then
    (J4 n a0 a1 s0.1).bind fun v91=>
    bif (bif (!decide (v91.2.code=0))then true else(decide ((↑a1.length:Int)≤s0.2)))then
     some (.ret false)
    else
     B5 (P4 (G0 n a1 a2) n ([],0)) (L6 n v91)
   else
    chk (0≤a2∧a2<(↑a1.length:Int)) <|
    (M5 n (get a1 a2.toNat) v90.1).bind fun v127=>
    eE (s0.1++[(w7.mk v90.1 v127)]) fun c129=>
    chk (c129.length*48≤top∧c129.length≤top) <|
    some (.nxt (c129,(wr .i64 (s0.2+1))))
 else
  some (.brk ())
def T5(t0:Unit):Option (Bool):=
 some false
def O8(n:Nat)(a0:x5)(a1:(List w8))(a2:Int):Option (Bool):=
 (E0 n).bind fun v1=>
 bif (!v1)then
  some false
 else
  bif (bif (decide (a2<0))then true else(decide ((↑a1.length:Int)≤a2)))then
   some true
  else
   B5 (P4 (D2 n a1 a0 a2) n ([],0)) (T5)
def R7(n:Nat)(v3:(List Int))(v2:(List (List w5)))(v4:(List w5))(k0:Nat)(k2:Nat)(s2:Int):Option (Ctl (Ctl ((List w7)×w9) ((List w7)) ((List w7))) (Int) (Int)):=
 chk (0≤(get v3 k2)∧(get v3 k2)<(↑v2.length:Int)) <|
 (S0 n (get v2 ((get v3 k2).toNat)) (w7.mk (get v4 k0) true)).bind fun v22=>
 bif v22 then
  some (.nxt (wr .i64 (s2+1)))
 else
  some (.nxt s2)
def dP(v3:(List Int))(s0:(List w7))(v4:(List w5))(k0:Nat)(t2:Int):Option (Ctl ((List w7)×w9) ((List w7)) ((List w7))):=
 bif (bif (decide (t2=0))then true else(decide (t2=(↑v3.length:Int))))then
  eE (s0++[(w7.mk (get v4 k0) (decide (0<t2)))]) fun c24=>
  chk (c24.length*48≤top∧c24.length≤top) <|
  some (.nxt c24)
 else
  some (.nxt s0)
def aX(n:Nat)(v3:(List Int))(v2:(List (List w5)))(v4:(List w5))(k0:Nat)(s0:(List w7)):Option (Ctl ((List w7)×w9) ((List w7)) ((List w7))):=
 B5 (F2 (R7 n v3 v2 v4 k0) v3.length 0) (dP v3 s0 v4 k0)
def dQ(t0:(List w7)):Option ((List w7)×w9):=
 some (t0,(w9.mk 0 0))
def bn(n:Nat)(a0:x5)(a1:(List w8))(a2:(List w7)):Option ((List w7)×w9):=
 (bZ n a0 a1 a2).bind fun v1=>
 bif (!decide (v1.code=0))then
  some ([],v1)
 else
  (X2 n a1).bind fun v2=>
  (L4 n v2 a2).bind fun v3=>
  bif (decide ((↑v3.length:Int)=0))then
   some ([],(w9.mk 0 0))
  else
   (Y0 n v2).bind fun v4=>
   B5 (F2 (aX n v3 v2 v4) v4.length []) (dQ)
def E4(a2:(List w7))(s0:(List w7)×Int):Option (Ctl (Bool) ((List w7)×Int) ((List w7))):=
 bif (decide (s0.2<(↑a2.length:Int)))then
  chk (0≤s0.2∧s0.2<(↑a2.length:Int)) <|
  eE (s0.1++[(get a2 s0.2.toNat)]) fun c21=>
  chk (c21.length*48≤top∧c21.length≤top) <|
  some (.nxt (c21,(wr .i64 (s0.2+1))))
 else
  some (.brk s0.1)
def E5(v2:(List w7)×w9)(s1:(List w7)×Int):Option (Ctl (Bool) ((List w7)×Int) ((List w7))):=
 bif (decide (s1.2<(↑v2.1.length:Int)))then
  chk (0≤s1.2∧s1.2<(↑v2.1.length:Int)) <|
  eE (s1.1++[(get v2.1 s1.2.toNat)]) fun c36=>
  chk (c36.length*48≤top∧c36.length≤top) <|
  some (.nxt (c36,(wr .i64 (s1.2+1))))
 else
  some (.brk s1.1)
def J8(n:Nat)(a0:x5)(a1:(List w8))(a2:(List w7))(t1:(List w7)):Option (Bool):=
 (J4 n a0 a1 a2).bind fun v41=>
 (J4 n a0 a1 t1).bind fun v42=>
 (gd (bif (decide (v41.2.code=0))then(decide (v42.2.code=0))else false) (J2 n v41.1 v42.1) default).bind fun v43=>
 some (bif (bif (decide (v41.2.code=0))then(decide (v42.2.code=0))else false)then v43 else false)
def J7(n:Nat)(v2:(List w7)×w9)(a0:x5)(a1:(List w8))(a2:(List w7))(t0:(List w7)):Option (Bool):=
 B5 (P4 (E5 v2) n (t0,0)) (J8 n a0 a1 a2)
def L5(n:Nat)(a0:x5)(a1:(List w8))(a2:(List w7)):Option (Bool):=
 (E0 n).bind fun v1=>
 bif (!v1)then
  some false
 else
  (bn n a0 a1 a2).bind fun v2=>
  bif (bif (!decide (v2.2.code=0))then true else(decide (300<(wr .i64 ((↑v2.1.length:Int)+(↑a2.length:Int))))))then
   some true
  else
   B5 (P4 (E4 a2) n ([],0)) (J7 n v2 a0 a1 a2)
def bK(n:Nat)(a2:Int)(v3:(List (List w5)))(v4:(List w5))(k0:Nat)(s0:(List w7)):Option (Ctl ((List w7)×w9) ((List w7)) ((List w7))):=
 chk (0≤a2∧a2<(↑v3.length:Int)) <|
 (S0 n (get v3 a2.toNat) (w7.mk (get v4 k0) true)).bind fun v16=>
 eE (s0++[(w7.mk (get v4 k0) v16)]) fun c18=>
 chk (c18.length*48≤top∧c18.length≤top) <|
 some (.nxt c18)
def eV(t0:(List w7)):Option ((List w7)×w9):=
 some (t0,(w9.mk 0 0))
def eU(n:Nat)(a0:x5)(a1:(List w8))(a2:Int):Option ((List w7)×w9):=
 (I4 n a0 a1).bind fun v1=>
 bif (!decide (v1.code=0))then
  some ([],v1)
 else
  bif (bif (decide (a2<0))then true else(decide ((↑a1.length:Int)≤a2)))then
   (L3 3 (-3)).bind fun v2=>
   some ([],v2)
  else
   (X2 n a1).bind fun v3=>
   (Y0 n v3).bind fun v4=>
   B5 (F2 (bK n a2 v3 v4) v4.length []) (eV)
def G3(v2:(List w7)×w9)(v4:(List w5)×w9)(s1:Int):Option (Ctl (Bool) (Int) (Unit)):=
 bif (decide (s1<(↑v2.1.length:Int)))then
  chk (0≤s1∧s1<(↑v2.1.length:Int)) <|
  chk (s1<(↑v4.1.length:Int)) <|
  bif (!(decide ((get v2.1 s1.toNat).what.from_=(get v4.1 s1.toNat).from_)&&(decide ((get v2.1 s1.toNat).what.to_=(get v4.1 s1.toNat).to_)&&(decide ((get v2.1 s1.toNat).what.level=(get v4.1 s1.toNat).level)&&(decide ((get v2.1 s1.toNat).what.rule=(get v4.1 s1.toNat).rule)&&(decide ((get v2.1 s1.toNat).what.lex=(get v4.1 s1.toNat).lex)))))))then
   some (.ret false)
  else
   some (.nxt (wr .i64 (s1+1)))
 else
  some (.brk ())
def G4(n:Nat)(a1:(List w8))(a2:Int)(s2:(List Int)×Int):Option (Ctl (Bool) ((List Int)×Int) ((List Int))):=
 bif (decide (s2.2<(↑a1.length:Int)))then
  chk (0≤s2.2∧s2.2<(↑a1.length:Int)) <|
  chk (0≤a2∧a2<(↑a1.length:Int)) <|
  (I8 n (get a1 s2.2.toNat) (get a1 a2.toNat)).bind fun v36=>
  bif v36 then
   eE (s2.1++[s2.2]) fun c38=>
   chk (c38.length*8≤top∧c38.length≤top) <|
   some (.nxt (c38,(wr .i64 (s2.2+1))))
  else
   some (.nxt (s2.1,(wr .i64 (s2.2+1))))
 else
  some (.brk s2.1)
def N3(n:Nat)(v10:(List Int)×w9)(t2:(List Int)):Option (Bool):=
 (gd (decide (v10.2.code=0)) (J2 n v10.1 t2) default).bind fun v43=>
 some (bif (decide (v10.2.code=0))then v43 else false)
def N0(n:Nat)(v2:(List w7)×w9)(a0:x5)(a1:(List w8))(a2:Int)(t1:Unit):Option (Bool):=
 bif (decide (300<(↑v2.1.length:Int)))then
  some true
 else
  (J4 n a0 a1 v2.1).bind fun v10=>
  B5 (P4 (G4 n a1 a2) n ([],0)) (N3 n v10)
def F3(n:Nat)(v2:(List w7)×w9)(a0:x5)(a1:(List w8))(a2:Int)(j0:Int×Int):Option (Bool):=
 bif (!decide (j0.1=0))then
  some (bif (decide (v2.2.code=j0.1)&&(decide (v2.2.index=j0.2)))then(decide ((↑v2.1.length:Int)=0))else false)
 else
  (dx n a0 a1).bind fun v4=>
  bif (bif (bif (!decide (v2.2.code=0))then true else(!decide (v4.2.code=0)))then true else(!decide ((↑v2.1.length:Int)=(↑v4.1.length:Int))))then
   some false
  else
   B5 (P4 (G3 v2 v4) n 0) (N0 n v2 a0 a1 a2)
def Q7(n:Nat)(a0:x5)(a1:(List w8))(a2:Int):Option (Bool):=
 (E0 n).bind fun v1=>
 bif (!v1)then
  some false
 else
  (eU n a0 a1 a2).bind fun v2=>
  (J3 n a0 a1).bind fun v3=>
  bif (bif (decide (v3.code=0))then(bif (decide (a2<0))then true else(decide ((↑a1.length:Int)≤a2)))else false)then
   F3 n v2 a0 a1 a2 (3, -3)
  else
   F3 n v2 a0 a1 a2 (v3.code,v3.index)
def S6(n:Nat)(a1:(List Int))(a0:(List w8))(a2:w5)(s0:Int×Int):Option (Ctl (Int) (Int×Int) (Int)):=
 bif (decide (s0.2<(↑a1.length:Int)))then
  chk (0≤s0.2∧s0.2<(↑a1.length:Int)) <|
  chk (0≤(get a1 s0.2.toNat)∧(get a1 s0.2.toNat)<(↑a0.length:Int)) <|
  (M5 n (get a0 ((get a1 s0.2.toNat).toNat)) a2).bind fun v9=>
  bif v9 then
   some (.nxt ((wr .i64 (s0.1+1)),(wr .i64 (s0.2+1))))
  else
   some (.nxt (s0.1,(wr .i64 (s0.2+1))))
 else
  some (.brk s0.1)
def bW(t0:Int):Option (Int):=
 some t0
def bL(n:Nat)(a0:(List w8))(a1:(List Int))(a2:w5):Option (Int):=
 B5 (P4 (S6 n a1 a0 a2) n (0,0)) (bW)
def E1(s1:Int×Int×Int×Int×Int×(List w7)×Int×Bool×Int)(v5:(List w5))(j4:(List w7))(j5:Int):Option (Ctl (Bool) (Int×Int×Int×Int×Int×(List w7)×Int×Bool×Int) (Int×Int×Int×Int×Int×(List w7)×Bool)):=
 bif (bif (!s1.2.2.2.2.2.2.2.1)then true else(decide (j5<s1.2.2.2.2.2.2.1)))then
  some (.nxt ((get v5 s1.2.2.2.2.2.2.2.2.toNat).from_,(get v5 s1.2.2.2.2.2.2.2.2.toNat).to_,(get v5 s1.2.2.2.2.2.2.2.2.toNat).level,(get v5 s1.2.2.2.2.2.2.2.2.toNat).rule,(get v5 s1.2.2.2.2.2.2.2.2.toNat).lex,j4,j5,true,(wr .i64 (s1.2.2.2.2.2.2.2.2+1))))
 else
  some (.nxt (s1.1,s1.2.1,s1.2.2.1,s1.2.2.2.1,s1.2.2.2.2.1,j4,s1.2.2.2.2.2.2.1,s1.2.2.2.2.2.2.2.1,(wr .i64 (s1.2.2.2.2.2.2.2.2+1))))
def D4(v17:Int)(v6:(List Int))(s1:Int×Int×Int×Int×Int×(List w7)×Int×Bool×Int)(v5:(List w5))(j4:(List w7)):Option (Ctl (Bool) (Int×Int×Int×Int×Int×(List w7)×Int×Bool×Int) (Int×Int×Int×Int×Int×(List w7)×Bool)):=
 bif (bif (decide (v17=0))then true else(decide (v17=(↑v6.length:Int))))then
  some (.nxt (s1.1,s1.2.1,s1.2.2.1,s1.2.2.2.1,s1.2.2.2.2.1,j4,s1.2.2.2.2.2.2.1,s1.2.2.2.2.2.2.2.1,(wr .i64 (s1.2.2.2.2.2.2.2.2+1))))
 else
  bif (decide (v17<(wr .i64 ((↑v6.length:Int)-v17))))then
   E1 s1 v5 j4 (wr .i64 ((↑v6.length:Int)-v17))
  else
   E1 s1 v5 j4 v17
def D3(n:Nat)(v5:(List w5))(a1:(List w8))(v6:(List Int))(s1:Int×Int×Int×Int×Int×(List w7)×Int×Bool×Int):Option (Ctl (Bool) (Int×Int×Int×Int×Int×(List w7)×Int×Bool×Int) (Int×Int×Int×Int×Int×(List w7)×Bool)):=
 bif (decide (s1.2.2.2.2.2.2.2.2<(↑v5.length:Int)))then
  chk (0≤s1.2.2.2.2.2.2.2.2∧s1.2.2.2.2.2.2.2.2<(↑v5.length:Int)) <|
  (bL n a1 v6 (get v5 s1.2.2.2.2.2.2.2.2.toNat)).bind fun v17=>
  bif (bif (decide (0<(↑v6.length:Int)))then(bif (decide (v17=0))then true else(decide (v17=(↑v6.length:Int))))else false)then
   eE (s1.2.2.2.2.2.1++[(w7.mk (get v5 s1.2.2.2.2.2.2.2.2.toNat) (decide (0<v17)))]) fun c19=>
   chk (c19.length*48≤top∧c19.length≤top) <|
   D4 v17 v6 s1 v5 c19
  else
   D4 v17 v6 s1 v5 s1.2.2.2.2.2.1
 else
  some (.brk (s1.1,s1.2.1,s1.2.2.1,s1.2.2.2.1,s1.2.2.2.2.1,s1.2.2.2.2.2.1,s1.2.2.2.2.2.2.2.1))
def E3(v2:(List w7)×w9)(t1:Int×Int×Int×Int×Int×(List w7)×Bool)(s6:Int):Option (Ctl (Bool) (Int) (Unit)):=
 bif (decide (s6<(↑v2.1.length:Int)))then
  chk (0≤s6∧s6<(↑v2.1.length:Int)) <|
  chk (s6<(↑t1.2.2.2.2.2.1.length:Int)) <|
  bif (!(decide ((get v2.1 s6.toNat).what.from_=(get t1.2.2.2.2.2.1 s6.toNat).what.from_)&&(decide ((get v2.1 s6.toNat).what.to_=(get t1.2.2.2.2.2.1 s6.toNat).what.to_)&&(decide ((get v2.1 s6.toNat).what.level=(get t1.2.2.2.2.2.1 s6.toNat).what.level)&&(decide ((get v2.1 s6.toNat).what.rule=(get t1.2.2.2.2.2.1 s6.toNat).what.rule)&&(decide ((get v2.1 s6.toNat).what.lex=(get t1.2.2.2.2.2.1 s6.toNat).what.lex)&&(decide ((get v2.1 s6.toNat).yes=(get t1.2.2.2.2.2.1 s6.toNat).yes))))))))then
   some (.ret false)
  else
   some (.nxt (wr .i64 (s6+1)))
 else
  some (.brk ())
def L7(t6:Unit):Option (Bool):=
 some true
def G6(n:Nat)(v2:(List w7)×w9)(v3:w5×Bool×w9)(t1:Int×Int×Int×Int×Int×(List w7)×Bool):Option (Bool):=
 bif (bif (bif (bif (bif (!decide (v2.2.code=0))then true else(!decide (v3.2.2.code=0)))then true else(!decide ((↑v2.1.length:Int)=(↑t1.2.2.2.2.2.1.length:Int))))then true else(!decide (v3.2.1=t1.2.2.2.2.2.2)))then true else(!(decide (v3.1.from_=t1.1)&&(decide (v3.1.to_=t1.2.1)&&(decide (v3.1.level=t1.2.2.1)&&(decide (v3.1.rule=t1.2.2.2.1)&&(decide (v3.1.lex=t1.2.2.2.2.1))))))))then
  some false
 else
  B5 (P4 (E3 v2 t1) n 0) (L7)
def D5(n:Nat)(v2:(List w7)×w9)(v3:w5×Bool×w9)(a1:(List w8))(a2:(List w7))(j0:Int×Int):Option (Bool):=
 bif (!decide (j0.1=0))then
  some (bif (bif (bif (bif (decide (v2.2.code=j0.1)&&(decide (v2.2.index=j0.2)))then(decide (v3.2.2.code=j0.1)&&(decide (v3.2.2.index=j0.2)))else false)then(decide ((↑v2.1.length:Int)=0))else false)then(!v3.2.1)else false)then(decide (v3.1.from_=0)&&(decide (v3.1.to_=0)&&(decide (v3.1.level=0)&&(decide (v3.1.rule=0)&&(decide (v3.1.lex=0))))))else false)
 else
  (U1 n a1).bind fun v5=>
  (bk n a1 a2).bind fun v6=>
  B5 (P4 (D3 n v5 a1 v6) n (0,0,0,0,0,[],0,false,0)) (G6 n v2 v3)
def I5(n:Nat)(a0:x5)(a1:(List w8))(a2:(List w7)):Option (Bool):=
 (E0 n).bind fun v1=>
 bif (!v1)then
  some false
 else
  (bn n a0 a1 a2).bind fun v2=>
  (aO n a0 a1 a2).bind fun v3=>
  (J3 n a0 a1).bind fun v4=>
  bif (bif (decide (v4.code=0))then(decide (300<(↑a2.length:Int)))else false)then
   D5 n v2 v3 a1 a2 (2, -3)
  else
   D5 n v2 v3 a1 a2 (v4.code,v4.index)
end Go.Proofs.YtfogbhjeihkliaaGreatDoor

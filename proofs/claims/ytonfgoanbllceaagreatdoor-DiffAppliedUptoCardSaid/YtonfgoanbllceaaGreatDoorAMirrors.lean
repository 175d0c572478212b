import Derived.Test.YtonfgoanbllceaaGreatDoorAHand
import Derived.Test.YtonfgoanbllceaaGreatDoorARowT
set_option linter.unusedVariables false
set_option linter.unusedSimpArgs false
namespace Go.Proofs.YtonfgoanbllceaaGreatDoor
open Go Go.Am
def bE(a0:(List w8))(s0:(List Bool)×Int)(k2:Nat)(s2:(List Bool)):Option (Ctl (Ctl (Bool) ((List Bool)×Int) ((List Bool))) ((List Bool)) ((List Bool))):=
 chk (0≤(get ((get a0 s0.2.toNat).parents) k2)∧(get ((get a0 s0.2.toNat).parents) k2)<(↑s2.length:Int)) <|
 cW (s2.set ((get ((get a0 s0.2.toNat).parents) k2).toNat) true) fun c44=>
 some (.nxt c44)
def bF(s0:(List Bool)×Int)(t2:(List Bool)):Option (Ctl (Bool) ((List Bool)×Int) ((List Bool))):=
 some (.nxt (t2,(wr .i64 (s0.2-1))))
def bD(a2:Int)(a0:(List w8))(s0:(List Bool)×Int):Option (Ctl (Bool) ((List Bool)×Int) ((List Bool))):=
 bif (decide (a2<s0.2))then
  chk (0≤s0.2∧s0.2<(↑s0.1.length:Int)) <|
  bif (get s0.1 s0.2.toNat)then
   chk (s0.2<(↑a0.length:Int)) <|
   C2 (D1 (bE a0 s0) (((get a0 s0.2.toNat).parents).length) s0.1) (bF s0)
  else
   some (.nxt (s0.1,(wr .i64 (s0.2-1))))
 else
  some (.brk s0.1)
def bG(a2:Int)(t0:(List Bool)):Option (Bool):=
 chk (0≤a2∧a2<(↑t0.length:Int)) <|
 some (get t0 a2.toNat)
def E1(n:Nat)(a0:(List w8))(a1:Int)(a2:Int):Option (Bool):=
 chk (a0.length*1≤top∧a0.length≤top) <|
 chk (0≤a1∧a1<(↑a0.length:Int)) <|
 cW ((List.replicate a0.length (default:Bool)).set a1.toNat true) fun c8=>
 C2 (V2 (bD a2 a0) n (c8,a1)) (bG a2)
def ak(a1:(List D3))(a0:(List D3))(k0:Nat)(s0:Unit):Option (Ctl (Bool) (Unit) (Unit)):=
 chk ((↑k0:Int)<(↑a1.length:Int)) <|
 bif (!(decide ((get a0 k0).hJ=(get a1 k0).hJ)&&(decide ((get a0 k0).to_=(get a1 k0).to_))))then
  some (.ret false)
 else
  some (.nxt ())
def ao(t0:Unit):Option (Bool):=
 some true
def L9(a0:(List D3))(a1:(List D3)):Option (Bool):=
 bif (!decide ((↑a0.length:Int)=(↑a1.length:Int)))then
  some false
 else
  C2 (D1 (ak a1 a0) a0.length ()) (ao)
def R7(a1:y5)(a0:y5)(k0:Nat)(s0:Unit):Option (Ctl (Bool) (Unit) (Unit)):=
 chk ((↑k0:Int)<(↑a1.nodes.length:Int)) <|
 (gd (!(!decide (((get a0.nodes k0).type)=((get a1.nodes k0).type)))) (L9 ((get a0.nodes k0).links) ((get a1.nodes k0).links)) default).bind fun v5=>
 bif (bif (!decide (((get a0.nodes k0).type)=((get a1.nodes k0).type)))then true else(!v5))then
  some (.ret false)
 else
  some (.nxt ())
def cM(t0:Unit):Option (Bool):=
 some true
def I0(a0:y5)(a1:y5):Option (Bool):=
 bif (!decide ((↑a0.nodes.length:Int)=(↑a1.nodes.length:Int)))then
  some false
 else
  chk (a0.nodes.length≤9223372036854775807) <|
  C2 (D1 (R7 a1 a0) a0.nodes.length ()) (cM)
def L3(self:(u0)→(u0)→Option (Bool))(a1:u0)(a0:u0)(k0:Nat)(s0:Unit):Option (Ctl (Bool) (Unit) (Unit)):=
 chk ((↑k0:Int)<(↑a1.args.length:Int)) <|
 (self (get a0.args k0) (get a1.args k0)).bind fun v3=>
 bif (!v3)then
  some (.ret false)
 else
  some (.nxt ())
def Y5(t0:Unit):Option (Bool):=
 some true
def F6:Nat→(u0)→(u0)→Option (Bool)
 |0,_,_=>none
 |n+1,a0,a1=>
  bif (bif (!decide (a0.base=a1.base))then true else(!decide ((↑a0.args.length:Int)=(↑a1.args.length:Int))))then
   some false
  else
   chk (a0.args.length≤9223372036854775807) <|
   C2 (D1 (L3 (F6 n) a1 a0) a0.args.length ()) (Y5)
def N8(self:(w6)→(w6)→Option (Bool))(a1:w6)(a0:w6)(k0:Nat)(s0:Unit):Option (Ctl (Bool) (Unit) (Unit)):=
 chk ((↑k0:Int)<(↑a1.args.length:Int)) <|
 (self (get a0.args k0) (get a1.args k0)).bind fun v4=>
 bif (!v4)then
  some (.ret false)
 else
  some (.nxt ())
def aQ(t0:Unit):Option (Bool):=
 some true
def E7:Nat→(w6)→(w6)→Option (Bool)
 |0,_,_=>none
 |n+1,a0,a1=>
  (gd (!(bif (bif (!decide (a0.kind=a1.kind))then true else(!decide (a0.name=a1.name)))then true else(!decide (a0.index=a1.index)))) (F6 n a0.type a1.type) default).bind fun v1=>
  bif (bif (bif (bif (bif (!decide (a0.kind=a1.kind))then true else(!decide (a0.name=a1.name)))then true else(!decide (a0.index=a1.index)))then true else(!v1))then true else(!decide ((↑a0.args.length:Int)=(↑a1.args.length:Int))))then
   some false
  else
   chk (a0.args.length≤9223372036854775807) <|
   C2 (D1 (N8 (E7 n) a1 a0) a0.args.length ()) (aQ)
def R8(n:Nat)(a1:(List w4))(a0:(List w4))(k0:Nat)(s0:Unit):Option (Ctl (Bool) (Unit) (Unit)):=
 chk ((↑k0:Int)<(↑a1.length:Int)) <|
 (gd (!(bif (bif (!decide (((get a0 k0).name)=((get a1 k0).name)))then true else(!decide (((get a0 k0).kids)=((get a1 k0).kids))))then true else(!decide (((get a0 k0).weight)=((get a1 k0).weight))))) (I0 ((get a0 k0).graph) ((get a1 k0).graph)) default).bind fun v5=>
 (gd (!(bif (bif (bif (!decide (((get a0 k0).name)=((get a1 k0).name)))then true else(!decide (((get a0 k0).kids)=((get a1 k0).kids))))then true else(!decide (((get a0 k0).weight)=((get a1 k0).weight))))then true else(!v5))) (E7 n ((get a0 k0).meaning) ((get a1 k0).meaning)) default).bind fun v6=>
 bif (bif (bif (bif (bif (!decide (((get a0 k0).name)=((get a1 k0).name)))then true else(!decide (((get a0 k0).kids)=((get a1 k0).kids))))then true else(!decide (((get a0 k0).weight)=((get a1 k0).weight))))then true else(!v5))then true else(!v6))then
  some (.ret false)
 else
  some (.nxt ())
def cN(t0:Unit):Option (Bool):=
 some true
def E6(n:Nat)(a0:(List w4))(a1:(List w4)):Option (Bool):=
 bif (!decide ((↑a0.length:Int)=(↑a1.length:Int)))then
  some false
 else
  C2 (D1 (R8 n a1 a0) a0.length ()) (cN)
def F5(n:Nat)(a0:x7)(a1:x7):Option (Bool):=
 (gd (bif (decide (a0.word=a1.word))then(decide (a0.weight=a1.weight))else false) (I0 a0.graph a1.graph) default).bind fun v1=>
 (gd (bif (bif (decide (a0.word=a1.word))then(decide (a0.weight=a1.weight))else false)then v1 else false) (E7 n a0.meaning a1.meaning) default).bind fun v2=>
 some (bif (bif (bif (decide (a0.word=a1.word))then(decide (a0.weight=a1.weight))else false)then v1 else false)then v2 else false)
def M1(a0:Bs):Option (u0):=
 some (u0.mk a0 [])
def D2(a0:u0)(a1:u0):Option (u0):=
 some (u0.mk [] [a0,a1])
def X3(a1:(List Int))(a0:(List Bs))(k0:Nat)(s0:(List w8)):Option (Ctl (w5) ((List w8)) ((List w8))):=
 bif (decide (0<(↑k0:Int)))then
  chk ((↑k0:Int)<(↑a1.length:Int)) <|
  cW (s0++[(w8.mk (get a0 k0) [(get a1 k0)])]) fun c14=>
  chk (c14.length*40≤top∧c14.length≤top) <|
  some (.nxt c14)
 else
  chk ((s0.length+1)*40≤top∧s0.length+1≤top) <|
  some (.nxt (s0++[(w8.mk (get a0 k0) [])]))
def X4(a2:(List y3))(t0:(List w8)):Option (w5):=
 some (w5.mk t0 a2)
def aR(a0:(List Bs))(a1:(List Int))(a2:(List y3)):Option (w5):=
 C2 (D1 (X3 a1 a0) a0.length []) (X4 a2)
def A0(a0:Int):Option (w6):=
 some (w6.mk 2 [] a0 (u0.mk [] []) [])
def C5(a0:w6)(a1:w6):Option (w6):=
 some (w6.mk 4 [] 0 (u0.mk [] []) [a0,a1])
def B5(a0:u0)(a1:w6):Option (w6):=
 some (w6.mk 3 [] 0 a0 [a1])
def cO(a0:Bool):Option ((List w6)):=
 (M1 [101]).bind fun v1=>
 (M1 [116]).bind fun v2=>
 (D2 v1 v2).bind fun v3=>
 (D2 v3 v2).bind fun v4=>
 (D2 v1 v3).bind fun v5=>
 (D2 v3 v4).bind fun v6=>
 (A0 1).bind fun v7=>
 (A0 0).bind fun v8=>
 (C5 v7 v8).bind fun v9=>
 (B5 v3 v9).bind fun v10=>
 (B5 v4 v10).bind fun v11=>
 (A0 1).bind fun v12=>
 (A0 0).bind fun v13=>
 (C5 v12 v13).bind fun v14=>
 (B5 v3 v14).bind fun v15=>
 (B5 v6 v15).bind fun v16=>
 (A0 0).bind fun v17=>
 (B5 v3 v17).bind fun v18=>
 (A0 1).bind fun v19=>
 (A0 3).bind fun v20=>
 (A0 1).bind fun v21=>
 (C5 v20 v21).bind fun v22=>
 (A0 0).bind fun v23=>
 (C5 v22 v23).bind fun v24=>
 (B5 v1 v24).bind fun v25=>
 (C5 v19 v25).bind fun v26=>
 (B5 v1 v26).bind fun v27=>
 (B5 v4 v27).bind fun v28=>
 (B5 v5 v28).bind fun v29=>
 (D2 v2 v2).bind fun v30=>
 (A0 2).bind fun v31=>
 (A0 1).bind fun v32=>
 (A0 0).bind fun v33=>
 (C5 v32 v33).bind fun v34=>
 (C5 v31 v34).bind fun v35=>
 (B5 v1 v35).bind fun v36=>
 (B5 v3 v36).bind fun v37=>
 (B5 v30 v37).bind fun v38=>
 (D2 v2 v2).bind fun v39=>
 (D2 v2 v39).bind fun v40=>
 (A0 2).bind fun v41=>
 (A0 3).bind fun v42=>
 (A0 0).bind fun v43=>
 (C5 v42 v43).bind fun v44=>
 (C5 v41 v44).bind fun v45=>
 (A0 1).bind fun v46=>
 (A0 0).bind fun v47=>
 (C5 v46 v47).bind fun v48=>
 (C5 v45 v48).bind fun v49=>
 (B5 v3 v49).bind fun v50=>
 (B5 v4 v50).bind fun v51=>
 (B5 v40 v51).bind fun v52=>
 (B5 v4 v52).bind fun v53=>
 bif a0 then
  (A0 0).bind fun v55=>
  (A0 1).bind fun v56=>
  (C5 v55 v56).bind fun v57=>
  (B5 v4 v57).bind fun v58=>
  (B5 v3 v58).bind fun v59=>
  (A0 0).bind fun v60=>
  (A0 1).bind fun v61=>
  (C5 v60 v61).bind fun v62=>
  (B5 v6 v62).bind fun v63=>
  (B5 v3 v63).bind fun v64=>
  (A0 2).bind fun v65=>
  (A0 2).bind fun v66=>
  (A0 1).bind fun v67=>
  (C5 v66 v67).bind fun v68=>
  (A0 0).bind fun v69=>
  (C5 v68 v69).bind fun v70=>
  (B5 v1 v70).bind fun v71=>
  (C5 v65 v71).bind fun v72=>
  (B5 v1 v72).bind fun v73=>
  (B5 v5 v73).bind fun v74=>
  (B5 v4 v74).bind fun v75=>
  some [v59,v64,v18,v75,v38,v53]
 else
  some [v11,v16,v18,v29,v38,v53]
def bh(a0:(List (List Int)))(k0:Nat)(s2:(List D3)×Int):Option (Ctl (Ctl (y5) ((List x5)) ((List x5))) ((List D3)×Int) ((List D3))):=
 bif (decide ((wr .i64 (s2.2+1))<(↑((get a0 k0).length):Int)))then
  chk (0≤s2.2∧s2.2<(↑((get a0 k0).length):Int)) <|
  chk (0≤(wr .i64 (s2.2+1))∧(wr .i64 (s2.2+1))<(↑((get a0 k0).length):Int)) <|
  cW (s2.1++[(D3.mk (get (get a0 k0) s2.2.toNat) (get (get a0 k0) ((wr .i64 (s2.2+1)).toNat)))]) fun c38=>
  chk (c38.length*16≤top∧c38.length≤top) <|
  some (.nxt (c38,(wr .i64 (s2.2+2))))
 else
  some (.brk s2.1)
def bk(s0:(List x5))(a0:(List (List Int)))(k0:Nat)(t2:(List D3)):Option (Ctl (y5) ((List x5)) ((List x5))):=
 chk ((s0.length+1)*32≤top∧s0.length+1≤top) <|
 some (.nxt (s0++[(x5.mk (get (get a0 k0) 0) t2)]))
def bn(n:Nat)(a0:(List (List Int)))(k0:Nat)(s0:(List x5)):Option (Ctl (y5) ((List x5)) ((List x5))):=
 chk (0<(↑((get a0 k0).length):Int)) <|
 C2 (V2 (bh a0 k0) n ([],1)) (bk s0 a0 k0)
def bp(t0:(List x5)):Option (y5):=
 some (y5.mk t0)
def E9(n:Nat)(a0:(List (List Int))):Option (y5):=
 C2 (D1 (bn n a0) a0.length []) (bp)
def C8(a0:Bs)(a1:u0):Option (w6):=
 some (w6.mk 1 a0 0 a1 [])
def Q9(v3:u0)(j0:Int×Bs×Int×Bs×(List u0)×(List w6)):Option (w6):=
 (B5 v3 (w6.mk j0.1 j0.2.1 j0.2.2.1 (u0.mk j0.2.2.2.1 j0.2.2.2.2.1) j0.2.2.2.2.2)).bind fun v22=>
 (B5 v3 v22).bind fun v23=>
 some v23
def O6(a0:Bs)(a1:Bs)(a2:Bool):Option (w6):=
 (M1 [101]).bind fun v1=>
 (M1 [116]).bind fun v2=>
 (D2 v1 v2).bind fun v3=>
 (D2 v3 v2).bind fun v4=>
 (C8 a0 v4).bind fun v5=>
 (D2 v2 v2).bind fun v6=>
 (D2 v2 v6).bind fun v7=>
 (C8 a1 v7).bind fun v8=>
 (A0 2).bind fun v9=>
 (A0 0).bind fun v10=>
 (C5 v9 v10).bind fun v11=>
 (C5 v8 v11).bind fun v12=>
 (A0 1).bind fun v13=>
 (A0 0).bind fun v14=>
 (C5 v13 v14).bind fun v15=>
 (C5 v12 v15).bind fun v16=>
 (B5 v1 v16).bind fun v17=>
 (C5 v5 v17).bind fun v18=>
 bif a2 then
  (D2 v2 v2).bind fun v19=>
  (C8 [110,111,116] v19).bind fun v20=>
  (C5 v20 v18).bind fun v21=>
  Q9 v3 (v21.kind,v21.name,v21.index,v21.type.base,v21.type.args,v21.args)
 else
  Q9 v3 (v18.kind,v18.name,v18.index,v18.type.base,v18.type.args,v18.args)
def C0(n:Nat)(a0:Bs)(a1:Int)(a2:w6)(a3:(List (List Int)))(jf:(List w8))(Qy:(List y3))(Qz:(List w4))(l1:(List x7))(l2:(List x5)):Option ((List x7)):=
 (E9 n a3).bind fun v1=>
 cW (l1++[(x7.mk a0 v1 a1 a2)]) fun c3=>
 chk (c3.length*144≤top∧c3.length≤top) <|
 some c3
def bO(n:Nat):Option (x9):=
 (M1 [101]).bind fun v1=>
 (M1 [116]).bind fun v2=>
 (D2 v1 v2).bind fun v3=>
 (D2 v1 v3).bind fun v4=>
 (aR [[116,111,112],[114,117,108,101],[115,105,103,110],[110,117,109],[115,105,110,103],[112,108,117,114],[115],[110,112],[118,112],[110],[100,101,116],[105,118],[116,118],[97,100,118],[99,111,110,106]] [0,0,0,0,3,3,2,2,2,2,2,2,2,2,2] [(y3.mk [109,111,116,104,101,114] 1 2),(y3.mk [111,110,101] 1 2),(y3.mk [116,119,111] 1 2),(y3.mk [116,104,114,101,101] 1 2),(y3.mk [110,117,109] 2 3)]).bind fun v8=>
 (cO false).bind fun v9=>
 chk (0<(↑v9.length:Int)) <|
 (E9 n [[1,0,1,1,2,2,4],[6],[7,4,3],[3],[8,4,3]]).bind fun v17=>
 chk (1<(↑v9.length:Int)) <|
 (E9 n [[1,0,1,1,3,2,4],[7,4,2],[3],[10,4,2],[9,4,2]]).bind fun v25=>
 chk (2<(↑v9.length:Int)) <|
 (E9 n [[1,0,1,1,3],[8,4,2],[3],[11,4,2]]).bind fun v32=>
 chk (3<(↑v9.length:Int)) <|
 (E9 n [[1,0,1,1,3,2,4],[8,4,2],[3],[12,4,2],[7]]).bind fun v40=>
 chk (4<(↑v9.length:Int)) <|
 (E9 n [[1,0,1,1,3,2,4],[8,4,2],[3],[13],[8,4,2]]).bind fun v48=>
 chk (5<(↑v9.length:Int)) <|
 (E9 n [[1,0,1,1,3,2,4,3,5],[7,4,2],[5],[7],[14],[7]]).bind fun v57=>
 (O6 [97,108,108] [105,102] false).bind fun v59=>
 (C0 n [101,118,101,114,121] 1 v59 [[10,4,1],[4]] v8.types v8.B1 [(w4.mk [115] v17 2 0 (get v9 0)),(w4.mk [110,112] v25 2 1 (get v9 1)),(w4.mk [118,112,45,105,118] v32 1 0 (get v9 2)),(w4.mk [118,112,45,116,118] v40 2 2 (get v9 3)),(w4.mk [118,112,45,110,111,116] v48 2 3 (get v9 4)),(w4.mk [110,112,45,97,110,100] v57 3 4 (get v9 5))] [] []).bind fun v63=>
 (O6 [115,111,109,101] [97,110,100] false).bind fun v64=>
 (C0 n [97] 0 v64 [[10,4,1],[4]] v8.types v8.B1 [(w4.mk [115] v17 2 0 (get v9 0)),(w4.mk [110,112] v25 2 1 (get v9 1)),(w4.mk [118,112,45,105,118] v32 1 0 (get v9 2)),(w4.mk [118,112,45,116,118] v40 2 2 (get v9 3)),(w4.mk [118,112,45,110,111,116] v48 2 3 (get v9 4)),(w4.mk [110,112,45,97,110,100] v57 3 4 (get v9 5))] v63 []).bind fun v68=>
 (O6 [115,111,109,101] [97,110,100] true).bind fun v69=>
 (C0 n [110,111] 2 v69 [[10]] v8.types v8.B1 [(w4.mk [115] v17 2 0 (get v9 0)),(w4.mk [110,112] v25 2 1 (get v9 1)),(w4.mk [118,112,45,105,118] v32 1 0 (get v9 2)),(w4.mk [118,112,45,116,118] v40 2 2 (get v9 3)),(w4.mk [118,112,45,110,111,116] v48 2 3 (get v9 4)),(w4.mk [110,112,45,97,110,100] v57 3 4 (get v9 5))] v68 []).bind fun v72=>
 (C8 [100,111,103] v3).bind fun v73=>
 (C0 n [100,111,103] 0 v73 [[9,4,1],[4]] v8.types v8.B1 [(w4.mk [115] v17 2 0 (get v9 0)),(w4.mk [110,112] v25 2 1 (get v9 1)),(w4.mk [118,112,45,105,118] v32 1 0 (get v9 2)),(w4.mk [118,112,45,116,118] v40 2 2 (get v9 3)),(w4.mk [118,112,45,110,111,116] v48 2 3 (get v9 4)),(w4.mk [110,112,45,97,110,100] v57 3 4 (get v9 5))] v72 []).bind fun v77=>
 (C8 [100,111,103] v3).bind fun v78=>
 (C0 n [100,111,103,115] 0 v78 [[9,4,1],[5]] v8.types v8.B1 [(w4.mk [115] v17 2 0 (get v9 0)),(w4.mk [110,112] v25 2 1 (get v9 1)),(w4.mk [118,112,45,105,118] v32 1 0 (get v9 2)),(w4.mk [118,112,45,116,118] v40 2 2 (get v9 3)),(w4.mk [118,112,45,110,111,116] v48 2 3 (get v9 4)),(w4.mk [110,112,45,97,110,100] v57 3 4 (get v9 5))] v77 []).bind fun v82=>
 (C8 [99,97,116] v3).bind fun v83=>
 (C0 n [99,97,116] 0 v83 [[9,4,1],[4]] v8.types v8.B1 [(w4.mk [115] v17 2 0 (get v9 0)),(w4.mk [110,112] v25 2 1 (get v9 1)),(w4.mk [118,112,45,105,118] v32 1 0 (get v9 2)),(w4.mk [118,112,45,116,118] v40 2 2 (get v9 3)),(w4.mk [118,112,45,110,111,116] v48 2 3 (get v9 4)),(w4.mk [110,112,45,97,110,100] v57 3 4 (get v9 5))] v82 []).bind fun v87=>
 (C8 [99,97,116] v3).bind fun v88=>
 (C0 n [99,97,116,115] 0 v88 [[9,4,1],[5]] v8.types v8.B1 [(w4.mk [115] v17 2 0 (get v9 0)),(w4.mk [110,112] v25 2 1 (get v9 1)),(w4.mk [118,112,45,105,118] v32 1 0 (get v9 2)),(w4.mk [118,112,45,116,118] v40 2 2 (get v9 3)),(w4.mk [118,112,45,110,111,116] v48 2 3 (get v9 4)),(w4.mk [110,112,45,97,110,100] v57 3 4 (get v9 5))] v87 []).bind fun v92=>
 (C8 [102,105,115,104] v3).bind fun v93=>
 (C0 n [102,105,115,104] 1 v93 [[9,4,1],[4]] v8.types v8.B1 [(w4.mk [115] v17 2 0 (get v9 0)),(w4.mk [110,112] v25 2 1 (get v9 1)),(w4.mk [118,112,45,105,118] v32 1 0 (get v9 2)),(w4.mk [118,112,45,116,118] v40 2 2 (get v9 3)),(w4.mk [118,112,45,110,111,116] v48 2 3 (get v9 4)),(w4.mk [110,112,45,97,110,100] v57 3 4 (get v9 5))] v92 []).bind fun v97=>
 (C8 [102,105,115,104] v3).bind fun v98=>
 (C0 n [102,105,115,104] 2 v98 [[9,4,1],[5]] v8.types v8.B1 [(w4.mk [115] v17 2 0 (get v9 0)),(w4.mk [110,112] v25 2 1 (get v9 1)),(w4.mk [118,112,45,105,118] v32 1 0 (get v9 2)),(w4.mk [118,112,45,116,118] v40 2 2 (get v9 3)),(w4.mk [118,112,45,110,111,116] v48 2 3 (get v9 4)),(w4.mk [110,112,45,97,110,100] v57 3 4 (get v9 5))] v97 []).bind fun v102=>
 (C8 [98,97,114,107] v3).bind fun v103=>
 (C0 n [98,97,114,107,115] 0 v103 [[11,4,1],[4]] v8.types v8.B1 [(w4.mk [115] v17 2 0 (get v9 0)),(w4.mk [110,112] v25 2 1 (get v9 1)),(w4.mk [118,112,45,105,118] v32 1 0 (get v9 2)),(w4.mk [118,112,45,116,118] v40 2 2 (get v9 3)),(w4.mk [118,112,45,110,111,116] v48 2 3 (get v9 4)),(w4.mk [110,112,45,97,110,100] v57 3 4 (get v9 5))] v102 []).bind fun v107=>
 (C8 [98,97,114,107] v3).bind fun v108=>
 (C0 n [98,97,114,107] 0 v108 [[11,4,1],[5]] v8.types v8.B1 [(w4.mk [115] v17 2 0 (get v9 0)),(w4.mk [110,112] v25 2 1 (get v9 1)),(w4.mk [118,112,45,105,118] v32 1 0 (get v9 2)),(w4.mk [118,112,45,116,118] v40 2 2 (get v9 3)),(w4.mk [118,112,45,110,111,116] v48 2 3 (get v9 4)),(w4.mk [110,112,45,97,110,100] v57 3 4 (get v9 5))] v107 []).bind fun v112=>
 (C8 [115,108,101,101,112] v3).bind fun v113=>
 (C0 n [115,108,101,101,112,115] 0 v113 [[11,4,1],[4]] v8.types v8.B1 [(w4.mk [115] v17 2 0 (get v9 0)),(w4.mk [110,112] v25 2 1 (get v9 1)),(w4.mk [118,112,45,105,118] v32 1 0 (get v9 2)),(w4.mk [118,112,45,116,118] v40 2 2 (get v9 3)),(w4.mk [118,112,45,110,111,116] v48 2 3 (get v9 4)),(w4.mk [110,112,45,97,110,100] v57 3 4 (get v9 5))] v112 []).bind fun v117=>
 (C8 [115,108,101,101,112] v3).bind fun v118=>
 (C0 n [115,108,101,101,112] 0 v118 [[11,4,1],[5]] v8.types v8.B1 [(w4.mk [115] v17 2 0 (get v9 0)),(w4.mk [110,112] v25 2 1 (get v9 1)),(w4.mk [118,112,45,105,118] v32 1 0 (get v9 2)),(w4.mk [118,112,45,116,118] v40 2 2 (get v9 3)),(w4.mk [118,112,45,110,111,116] v48 2 3 (get v9 4)),(w4.mk [110,112,45,97,110,100] v57 3 4 (get v9 5))] v117 []).bind fun v122=>
 (C8 [99,104,97,115,101] v4).bind fun v123=>
 (C0 n [99,104,97,115,101,115] 0 v123 [[12,4,1],[4]] v8.types v8.B1 [(w4.mk [115] v17 2 0 (get v9 0)),(w4.mk [110,112] v25 2 1 (get v9 1)),(w4.mk [118,112,45,105,118] v32 1 0 (get v9 2)),(w4.mk [118,112,45,116,118] v40 2 2 (get v9 3)),(w4.mk [118,112,45,110,111,116] v48 2 3 (get v9 4)),(w4.mk [110,112,45,97,110,100] v57 3 4 (get v9 5))] v122 []).bind fun v127=>
 (C8 [99,104,97,115,101] v4).bind fun v128=>
 (C0 n [99,104,97,115,101] 0 v128 [[12,4,1],[5]] v8.types v8.B1 [(w4.mk [115] v17 2 0 (get v9 0)),(w4.mk [110,112] v25 2 1 (get v9 1)),(w4.mk [118,112,45,105,118] v32 1 0 (get v9 2)),(w4.mk [118,112,45,116,118] v40 2 2 (get v9 3)),(w4.mk [118,112,45,110,111,116] v48 2 3 (get v9 4)),(w4.mk [110,112,45,97,110,100] v57 3 4 (get v9 5))] v127 []).bind fun v132=>
 (C8 [115,101,101] v4).bind fun v133=>
 (C0 n [115,101,101,115] 1 v133 [[12,4,1],[4]] v8.types v8.B1 [(w4.mk [115] v17 2 0 (get v9 0)),(w4.mk [110,112] v25 2 1 (get v9 1)),(w4.mk [118,112,45,105,118] v32 1 0 (get v9 2)),(w4.mk [118,112,45,116,118] v40 2 2 (get v9 3)),(w4.mk [118,112,45,110,111,116] v48 2 3 (get v9 4)),(w4.mk [110,112,45,97,110,100] v57 3 4 (get v9 5))] v132 []).bind fun v137=>
 (C8 [115,101,101] v4).bind fun v138=>
 (C0 n [115,101,101] 1 v138 [[12,4,1],[5]] v8.types v8.B1 [(w4.mk [115] v17 2 0 (get v9 0)),(w4.mk [110,112] v25 2 1 (get v9 1)),(w4.mk [118,112,45,105,118] v32 1 0 (get v9 2)),(w4.mk [118,112,45,116,118] v40 2 2 (get v9 3)),(w4.mk [118,112,45,110,111,116] v48 2 3 (get v9 4)),(w4.mk [110,112,45,97,110,100] v57 3 4 (get v9 5))] v137 []).bind fun v142=>
 (D2 v2 v2).bind fun v143=>
 (C8 [110,111,116] v143).bind fun v144=>
 (C0 n [110,111,116] 0 v144 [[13]] v8.types v8.B1 [(w4.mk [115] v17 2 0 (get v9 0)),(w4.mk [110,112] v25 2 1 (get v9 1)),(w4.mk [118,112,45,105,118] v32 1 0 (get v9 2)),(w4.mk [118,112,45,116,118] v40 2 2 (get v9 3)),(w4.mk [118,112,45,110,111,116] v48 2 3 (get v9 4)),(w4.mk [110,112,45,97,110,100] v57 3 4 (get v9 5))] v142 []).bind fun v147=>
 (D2 v2 v2).bind fun v148=>
 (D2 v2 v148).bind fun v149=>
 (C8 [97,110,100] v149).bind fun v150=>
 (C0 n [97,110,100] 0 v150 [[14]] v8.types v8.B1 [(w4.mk [115] v17 2 0 (get v9 0)),(w4.mk [110,112] v25 2 1 (get v9 1)),(w4.mk [118,112,45,105,118] v32 1 0 (get v9 2)),(w4.mk [118,112,45,116,118] v40 2 2 (get v9 3)),(w4.mk [118,112,45,110,111,116] v48 2 3 (get v9 4)),(w4.mk [110,112,45,97,110,100] v57 3 4 (get v9 5))] v147 []).bind fun v153=>
 (A0 0).bind fun v154=>
 (C8 [114,101,120] v1).bind fun v155=>
 (C5 v154 v155).bind fun v156=>
 (B5 v3 v156).bind fun v157=>
 (C0 n [114,101,120] 0 v157 [[7,4,1],[4]] v8.types v8.B1 [(w4.mk [115] v17 2 0 (get v9 0)),(w4.mk [110,112] v25 2 1 (get v9 1)),(w4.mk [118,112,45,105,118] v32 1 0 (get v9 2)),(w4.mk [118,112,45,116,118] v40 2 2 (get v9 3)),(w4.mk [118,112,45,110,111,116] v48 2 3 (get v9 4)),(w4.mk [110,112,45,97,110,100] v57 3 4 (get v9 5))] v153 []).bind fun v161=>
 (A0 0).bind fun v162=>
 (C8 [109,105,97] v1).bind fun v163=>
 (C5 v162 v163).bind fun v164=>
 (B5 v3 v164).bind fun v165=>
 (C0 n [109,105,97] 0 v165 [[7,4,1],[4]] v8.types v8.B1 [(w4.mk [115] v17 2 0 (get v9 0)),(w4.mk [110,112] v25 2 1 (get v9 1)),(w4.mk [118,112,45,105,118] v32 1 0 (get v9 2)),(w4.mk [118,112,45,116,118] v40 2 2 (get v9 3)),(w4.mk [118,112,45,110,111,116] v48 2 3 (get v9 4)),(w4.mk [110,112,45,97,110,100] v57 3 4 (get v9 5))] v161 []).bind fun v169=>
 (E9 n [[6]]).bind fun v172=>
 some (x9.mk v8 [(w4.mk [115] v17 2 0 (get v9 0)),(w4.mk [110,112] v25 2 1 (get v9 1)),(w4.mk [118,112,45,105,118] v32 1 0 (get v9 2)),(w4.mk [118,112,45,116,118] v40 2 2 (get v9 3)),(w4.mk [118,112,45,110,111,116] v48 2 3 (get v9 4)),(w4.mk [110,112,45,97,110,100] v57 3 4 (get v9 5))] v169 v172)
def K5(a0:Int)(a1:Int):Option (x6):=
 some (x6.mk a0 a1)
def nY(a0:Bs)(k0:Nat)(s0:Unit):Option (Ctl (Bool) (Unit) (Unit)):=
 bif (!(bif (bif (bif (bif (decide (97≤(B2 a0 (↑k0:Int))))then(decide ((B2 a0 (↑k0:Int))≤122))else false)then true else(bif (decide (48≤(B2 a0 (↑k0:Int))))then(decide ((B2 a0 (↑k0:Int))≤57))else false))then true else(decide ((B2 a0 (↑k0:Int))=95)))then true else(decide ((B2 a0 (↑k0:Int))=45))))then
  some (.ret false)
 else
  some (.nxt ())
def nZ(t0:Unit):Option (Bool):=
 some true
def termName(a0:Bs):Option (Bool):=
 chk (cX (!(bif (decide ((↑a0.length:Int)=0))then true else(decide (30<(↑a0.length:Int))))) (0<(↑a0.length:Int))) <|
 chk (cX (!(bif (bif (decide ((↑a0.length:Int)=0))then true else(decide (30<(↑a0.length:Int))))then true else(decide ((B2 a0 0)<97)))) (0<(↑a0.length:Int))) <|
 bif (bif (bif (bif (decide ((↑a0.length:Int)=0))then true else(decide (30<(↑a0.length:Int))))then true else(decide ((B2 a0 0)<97)))then true else(decide (122<(B2 a0 0))))then
  some false
 else
  chk (a0.length≤9223372036854775807) <|
  C2 (D1 (nY a0) a0.length ()) (nZ)
def fQ(a0:(List w8))(k0:Nat)(k2:Nat)(s2:Int):Option (Ctl (Ctl (x6) ((List (Bs×Int))) ((List (Bs×Int)))) (Int) (Int)):=
 bif (bif (decide ((get ((get a0 k0).parents) k2)<0))then true else(decide ((↑k0:Int)≤(get ((get a0 k0).parents) k2))))then
  (K5 3 (↑k0:Int)).bind fun v20=>
  some (.ret (.ret v20))
 else
  bif (decide ((get ((get a0 k0).parents) k2)≤s2))then
   (K5 13 (↑k0:Int)).bind fun v21=>
   some (.ret (.ret v21))
  else
   some (.nxt (get ((get a0 k0).parents) k2))
def fR(c15:(List (Bs×Int)))(t2:Int):Option (Ctl (x6) ((List (Bs×Int))) ((List (Bs×Int)))):=
 some (.nxt c15)
def fP(a0:(List w8))(k0:Nat)(s0:(List (Bs×Int))):Option (Ctl (x6) ((List (Bs×Int))) ((List (Bs×Int)))):=
 (termName ((get a0 k0).name)).bind fun v12=>
 bif (!v12)then
  (K5 10 (↑k0:Int)).bind fun v13=>
  some (.ret v13)
 else
  bif (assoc ((get a0 k0).name) s0).isSome then
   (K5 7 (↑k0:Int)).bind fun v14=>
   some (.ret v14)
  else
   cW (L5 ((get a0 k0).name) (↑k0:Int) s0) fun c15=>
   bif (!decide ((decide ((↑k0:Int)=0))=(decide ((↑(((get a0 k0).parents).length):Int)=0))))then
    (K5 5 (↑k0:Int)).bind fun v17=>
    some (.ret v17)
   else
    C2 (D1 (fQ a0 k0) (((get a0 k0).parents).length) (-1)) (fR c15)
def jl(t0:(List (Bs×Int))):Option (x6):=
 some (x6.mk 0 0)
def dX(a0:(List w8)):Option (x6):=
 bif (bif (decide ((↑a0.length:Int)=0))then true else(decide (60<(↑a0.length:Int))))then
  (K5 2 (-1)).bind fun v1=>
  some v1
 else
  C2 (D1 (fP a0) a0.length []) (jl)
def eH(k0:Nat)(a0:(List w8))(k3:Nat)(s3:(List Int)):Option (Ctl (Ctl (B6) ((List Int)×(List Int)) ((List Int)×(List Int))) ((List Int)) ((List Int))):=
 chk ((↑k0:Int)<(↑s3.length:Int)) <|
 chk (0≤(get ((get a0 k0).parents) k3)∧(get ((get a0 k0).parents) k3)<(↑s3.length:Int)) <|
 cW (s3.set k0 (Y9 .or .u64 (get s3 k0) (get s3 ((get ((get a0 k0).parents) k3).toNat)))) fun c86=>
 some (.nxt c86)
def eJ(k0:Nat)(t3:(List Int))(k4:Nat)(s4:(List Int)):Option (Ctl (Ctl (B6) ((List Int)×(List Int)) ((List Int)×(List Int))) ((List Int)) ((List Int))):=
 chk ((↑k0:Int)<(↑t3.length:Int)) <|
 chk (0≤(↑k4:Int)) <|
 bif (decide ((Y9 .and .u64 (Int.fdiv (get t3 k0) (2^(min k4 64))) 1)=1))then
  chk ((↑k4:Int)<(↑s4.length:Int)) <|
  cW (s4.set k4 (Y9 .or .u64 (get s4 k4) (wr .u64 (1*2^(min k0 64))))) fun c110=>
  some (.nxt c110)
 else
  some (.nxt s4)
def eK(t3:(List Int))(t4:(List Int)):Option (Ctl (B6) ((List Int)×(List Int)) ((List Int)×(List Int))):=
 some (.nxt (t3,t4))
def eI(k0:Nat)(a0:(List w8))(s0:(List Int)×(List Int))(t3:(List Int)):Option (Ctl (B6) ((List Int)×(List Int)) ((List Int)×(List Int))):=
 C2 (D1 (eJ k0 t3) a0.length s0.2) (eK t3)
def eG(a0:(List w8))(k0:Nat)(s0:(List Int)×(List Int)):Option (Ctl (B6) ((List Int)×(List Int)) ((List Int)×(List Int))):=
 chk (0≤(↑k0:Int)) <|
 chk ((↑k0:Int)<(↑s0.1.length:Int)) <|
 cW (s0.1.set k0 (wr .u64 (1*2^(min k0 64)))) fun c62=>
 C2 (D1 (eH k0 a0) (((get a0 k0).parents).length) c62) (eI k0 a0 s0)
def eL(t0:(List Int)×(List Int)):Option (B6):=
 some (B6.mk t0.1 t0.2)
def cF(a0:(List w8)):Option (B6):=
 chk (a0.length*8≤top∧a0.length≤top) <|
 C2 (D1 (eG a0) a0.length ((List.replicate a0.length (default:Int)),(List.replicate a0.length (default:Int)))) (eL)
def T4(a0:Int):Option (Int):=
 bif (decide (a0=0))then
  some 64
 else
  chk (0≤(Int.fdiv (wr .u64 ((Y9 .and .u64 a0 (wr .u64 (0-a0)))*285870213051353865)) (2^(min 58 64)))∧(Int.fdiv (wr .u64 ((Y9 .and .u64 a0 (wr .u64 (0-a0)))*285870213051353865)) (2^(min 58 64)))<64) <|
  some (wr .i64 (get JL ((Int.fdiv (wr .u64 ((Y9 .and .u64 a0 (wr .u64 (0-a0)))*285870213051353865)) (2^(min 58 64))).toNat)))
def bC(a0:B6)(a1:Int)(a2:Int):Option (Int×Bool×Bool):=
 chk (0≤a1∧a1<(↑a0.down.length:Int)) <|
 chk (0≤a2∧a2<(↑a0.down.length:Int)) <|
 bif (decide ((Y9 .and .u64 (get a0.down a1.toNat) (get a0.down a2.toNat))=0))then
  some (0,false,false)
 else
  (T4 (Y9 .and .u64 (get a0.down a1.toNat) (get a0.down a2.toNat))).bind fun v5=>
  chk (0≤v5∧v5<(↑a0.down.length:Int)) <|
  bif (!decide ((get a0.down v5.toNat)=(Y9 .and .u64 (get a0.down a1.toNat) (get a0.down a2.toNat))))then
   some (0,false,true)
  else
   some (v5,true,false)
def cr(v3:B6)(k0:Nat)(k1:Nat)(s1:Unit):Option (Ctl (Ctl (x6) (Unit) (Unit)) (Unit) (Unit)):=
 (bC v3 (↑k1:Int) (↑k0:Int)).bind fun v6=>
 bif v6.2.2 then
  (K5 16 (↑k0:Int)).bind fun v7=>
  some (.ret (.ret v7))
 else
  some (.nxt ())
def cu(t1:Unit):Option (Ctl (x6) (Unit) (Unit)):=
 some (.nxt ())
def cj(v3:B6)(k0:Nat)(s0:Unit):Option (Ctl (x6) (Unit) (Unit)):=
 chk (k0≤9223372036854775807) <|
 C2 (D1 (cr v3 k0) k0 ()) (cu)
def cg(a0:w5)(k2:Nat)(s2:(List (Bs×Int))):Option (Ctl (x6) ((List (Bs×Int))) ((List (Bs×Int)))):=
 (termName ((get a0.B1 k2).name)).bind fun v14=>
 bif (!v14)then
  (K5 10 (↑k2:Int)).bind fun v15=>
  some (.ret v15)
 else
  bif (assoc ((get a0.B1 k2).name) s2).isSome then
   (K5 7 (↑k2:Int)).bind fun v16=>
   some (.ret v16)
  else
   cW (L5 ((get a0.B1 k2).name) (↑k2:Int) s2) fun c17=>
   bif (bif (bif (bif (decide (((get a0.B1 k2).of_)<0))then true else(decide ((↑a0.types.length:Int)≤((get a0.B1 k2).of_))))then true else(decide (((get a0.B1 k2).value)<0)))then true else(decide ((↑a0.types.length:Int)≤((get a0.B1 k2).value))))then
    (K5 3 (↑k2:Int)).bind fun v19=>
    some (.ret v19)
   else
    some (.nxt c17)
def gn(t2:(List (Bs×Int))):Option (x6):=
 some (x6.mk 0 0)
def Z1(a0:w5)(t0:Unit):Option (x6):=
 C2 (D1 (cg a0) a0.B1.length []) (gn)
def cG(a0:w5):Option (x6):=
 bif (bif (bif (decide ((↑a0.types.length:Int)=0))then true else(decide (60<(↑a0.types.length:Int))))then true else(decide (40<(↑a0.B1.length:Int))))then
  (K5 2 (-1)).bind fun v1=>
  some v1
 else
  (dX a0.types).bind fun v2=>
  bif (!decide (v2.code=0))then
   some v2
  else
   (cF a0.types).bind fun v3=>
   chk (a0.types.length≤9223372036854775807) <|
   C2 (D1 (cj v3) a0.types.length ()) (Z1 a0)
def aA(a0:Int)(a1:Int):Option (x6):=
 some (x6.mk a0 a1)
def fO(a0:Int)(a1:Int):Option (x6):=
 some (x6.mk a0 a1)
def ko(a1:y5)(k0:Nat)(a0:w5)(k2:Nat)(s2:Int):Option (Ctl (Ctl (x6) (Unit) (Unit)) (Int) (Int)):=
 bif (bif (bif (bif (decide (((get ((get a1.nodes k0).links) k2).hJ)<0))then true else(decide ((↑a0.B1.length:Int)≤((get ((get a1.nodes k0).links) k2).hJ))))then true else(decide (((get ((get a1.nodes k0).links) k2).to_)<0)))then true else(decide ((↑a1.nodes.length:Int)≤((get ((get a1.nodes k0).links) k2).to_))))then
  (fO 3 (↑k0:Int)).bind fun v10=>
  some (.ret (.ret v10))
 else
  bif (decide (((get ((get a1.nodes k0).links) k2).hJ)≤s2))then
   (fO 13 (↑k0:Int)).bind fun v11=>
   some (.ret (.ret v11))
  else
   some (.nxt ((get ((get a1.nodes k0).links) k2).hJ))
def kq(t2:Int):Option (Ctl (x6) (Unit) (Unit)):=
 some (.nxt ())
def kl(a1:y5)(a0:w5)(k0:Nat)(s0:Unit):Option (Ctl (x6) (Unit) (Unit)):=
 bif (bif (decide (((get a1.nodes k0).type)<0))then true else(decide ((↑a0.types.length:Int)≤((get a1.nodes k0).type))))then
  (fO 3 (↑k0:Int)).bind fun v7=>
  some (.ret v7)
 else
  C2 (D1 (ko a1 k0 a0) (((get a1.nodes k0).links).length) (-1)) (kq)
def ou(t0:Unit):Option (x6):=
 some (x6.mk 0 0)
def nA(a0:w5)(a1:y5):Option (x6):=
 bif (bif (decide ((↑a1.nodes.length:Int)=0))then true else(decide (60<(↑a1.nodes.length:Int))))then
  (fO 2 (-2)).bind fun v1=>
  some v1
 else
  C2 (D1 (kl a1 a0) a1.nodes.length ()) (ou)
def aE(a0:B6)(a1:Int)(a2:Int):Option (Bool):=
 chk (0≤a1∧a1<(↑a0.up.length:Int)) <|
 chk (0≤a2) <|
 some (decide ((Y9 .and .u64 (Int.fdiv (get a0.up a1.toNat) (2^(min a2.toNat 64))) 1)=1))
def aW(a1:Bool)(a0:(List Bool))(k0:Nat)(s0:Unit):Option (Ctl (Int) (Unit) (Unit)):=
 bif (decide (a1=(get a0 k0)))then
  some (.ret (↑k0:Int))
 else
  some (.nxt ())
def eA(t0:Unit):Option (Int):=
 some (-1)
def L1(a0:(List Bool))(a1:Bool):Option (Int):=
 C2 (D1 (aW a1 a0) a0.length ()) (eA)
def fT(a0:y5)(s0:(List Bool)×(List Int)×Nat)(k2:Nat)(s2:(List Bool)×(List Int)×Nat):Option (Ctl (Ctl (Int) ((List Bool)×(List Int)×Nat) ((List Bool))) ((List Bool)×(List Int)×Nat) ((List Bool)×(List Int)×Nat)):=
 chk (0≤(get ((get a0.nodes ((get s0.2.1 ((wr .i64 ((↑s0.2.2:Int)-1)).toNat)).toNat)).links) k2).to_∧(get ((get a0.nodes ((get s0.2.1 ((wr .i64 ((↑s0.2.2:Int)-1)).toNat)).toNat)).links) k2).to_<(↑s2.1.length:Int)) <|
 bif (!(get s2.1 (((get ((get a0.nodes ((get s0.2.1 ((wr .i64 ((↑s0.2.2:Int)-1)).toNat)).toNat)).links) k2).to_).toNat)))then
  cW (s2.1.set (((get ((get a0.nodes ((get s0.2.1 ((wr .i64 ((↑s0.2.2:Int)-1)).toNat)).toNat)).links) k2).to_).toNat) true) fun c79=>
  chk (s2.2.2≤s2.2.1.length) <|
  cW ((s2.2.1.take s2.2.2)++[(get ((get a0.nodes ((get s0.2.1 ((wr .i64 ((↑s0.2.2:Int)-1)).toNat)).toNat)).links) k2).to_]) fun c84=>
  chk (c84.length*8≤top∧c84.length≤top) <|
  some (.nxt (c79,c84,c84.length))
 else
  some (.nxt (s2.1,s2.2.1,s2.2.2))
def fU(t2:(List Bool)×(List Int)×Nat):Option (Ctl (Int) ((List Bool)×(List Int)×Nat) ((List Bool))):=
 some (.nxt (t2.1,t2.2.1,t2.2.2))
def fS(a0:y5)(s0:(List Bool)×(List Int)×Nat):Option (Ctl (Int) ((List Bool)×(List Int)×Nat) ((List Bool))):=
 bif (decide (0<(↑s0.2.2:Int)))then
  chk (s0.2.2≤s0.2.1.length) <|
  chk (0≤(wr .i64 ((↑s0.2.2:Int)-1))∧(wr .i64 ((↑s0.2.2:Int)-1))<(↑s0.2.2:Int)) <|
  chk ((wr .i64 ((↑s0.2.2:Int)-1)).toNat≤s0.2.2) <|
  chk (0≤(get s0.2.1 ((wr .i64 ((↑s0.2.2:Int)-1)).toNat))∧(get s0.2.1 ((wr .i64 ((↑s0.2.2:Int)-1)).toNat))<(↑a0.nodes.length:Int)) <|
  C2 (D1 (fT a0 s0) (((get a0.nodes ((get s0.2.1 ((wr .i64 ((↑s0.2.2:Int)-1)).toNat)).toNat)).links).length) (s0.1,s0.2.1,(wr .i64 ((↑s0.2.2:Int)-1)).toNat)) (fU)
 else
  some (.brk s0.1)
def fV(t0:(List Bool)):Option (Int):=
 (L1 t0 false).bind fun v89=>
 some v89
def dY(n:Nat)(a0:y5):Option (Int):=
 chk (a0.nodes.length*1≤top∧a0.nodes.length≤top) <|
 chk (0<(↑a0.nodes.length:Int)) <|
 cW ((List.replicate a0.nodes.length (default:Bool)).set 0 true) fun c7=>
 C2 (V2 (fS a0) n (c7,[0],1)) (fV)
def ju(a2:y5)(k0:Nat)(a0:w5)(a1:B6)(k2:Nat)(s2:Unit):Option (Ctl (Ctl (x6) (Unit) (Unit)) (Unit) (Unit)):=
 chk (0≤(get ((get a2.nodes k0).links) k2).hJ∧(get ((get a2.nodes k0).links) k2).hJ<(↑a0.B1.length:Int)) <|
 (aE a1 ((get a2.nodes k0).type) ((get a0.B1 (((get ((get a2.nodes k0).links) k2).hJ).toNat)).of_)).bind fun v28=>
 chk (cX (!(!v28)) (0≤(get ((get a2.nodes k0).links) k2).to_)∧cX (!(!v28)) ((get ((get a2.nodes k0).links) k2).to_<(↑a2.nodes.length:Int))) <|
 (gd (!(!v28)) (aE a1 ((get a2.nodes (((get ((get a2.nodes k0).links) k2).to_).toNat)).type) ((get a0.B1 (((get ((get a2.nodes k0).links) k2).hJ).toNat)).value)) default).bind fun v32=>
 bif (bif (!v28)then true else(!v32))then
  (fO 12 (↑k0:Int)).bind fun v33=>
  some (.ret (.ret v33))
 else
  some (.nxt ())
def jv(t2:Unit):Option (Ctl (x6) (Unit) (Unit)):=
 some (.nxt ())
def jt(a2:y5)(a0:w5)(a1:B6)(k0:Nat)(s0:Unit):Option (Ctl (x6) (Unit) (Unit)):=
 C2 (D1 (ju a2 k0 a0 a1) (((get a2.nodes k0).links).length) ()) (jv)
def jw(n:Nat)(a2:y5)(t0:Unit):Option (x6):=
 (dY n a2).bind fun v34=>
 bif (decide (0≤v34))then
  (fO 5 v34).bind fun v35=>
  some v35
 else
  some (x6.mk 0 0)
def gQ(n:Nat)(a0:w5)(a1:B6)(a2:y5):Option (x6):=
 (nA a0 a2).bind fun v1=>
 bif (!decide (v1.code=0))then
  some v1
 else
  C2 (D1 (jt a2 a0 a1) a2.nodes.length ()) (jw n a2)
def oz(a0:Int):Option (Bool):=
 some false
def iL(a0:Int)(a1:Int):Option (Int):=
 (oz a0).bind fun v1=>
 (oz a1).bind fun v2=>
 bif v1 then
  bif v2 then
   some 0
  else
   some (-1)
 else
  bif v2 then
   some 1
  else
   bif (decide (a0<a1))then
    some (-1)
   else
    bif (decide (a1<a0))then
     some 1
    else
     some 0
def hY(a0:D3)(a1:Int):Option (Int):=
 (iL a0.hJ a1).bind fun v1=>
 some v1
def G4(a0:(List D3))(a1:Int)(s0:Int×Int):Option (Ctl (Int×Bool) (Int×Int) (Int)):=
 bif (decide (s0.2<s0.1))then
  chk (0≤(wr .i64 (Int.fdiv (wr .u64 (wr .i64 (s0.2+s0.1))) (2^(min 1 64))))∧(wr .i64 (Int.fdiv (wr .u64 (wr .i64 (s0.2+s0.1))) (2^(min 1 64))))<(↑a0.length:Int)) <|
  (hY (get a0 ((wr .i64 (Int.fdiv (wr .u64 (wr .i64 (s0.2+s0.1))) (2^(min 1 64)))).toNat)) a1).bind fun v6=>
  bif (decide (v6<0))then
   some (.nxt (s0.1,(wr .i64 ((wr .i64 (Int.fdiv (wr .u64 (wr .i64 (s0.2+s0.1))) (2^(min 1 64))))+1))))
  else
   some (.nxt ((wr .i64 (Int.fdiv (wr .u64 (wr .i64 (s0.2+s0.1))) (2^(min 1 64)))),s0.2))
 else
  some (.brk s0.2)
def G5(a0:(List D3))(a1:Int)(t0:Int):Option (Int×Bool):=
 chk (cX (decide (t0<(↑a0.length:Int))) (0≤t0)∧cX (decide (t0<(↑a0.length:Int))) (t0<(↑a0.length:Int))) <|
 (gd (decide (t0<(↑a0.length:Int))) (hY (get a0 t0.toNat) a1) default).bind fun v10=>
 some (t0,(bif (decide (t0<(↑a0.length:Int)))then(decide (v10=0))else false))
def F1(n:Nat)(a0:(List D3))(a1:Int):Option (Int×Bool):=
 C2 (V2 (G4 a0 a1) n ((↑a0.length:Int),0)) (G5 a0 a1)
def kV(n:Nat)(a0:y5)(a1:Int)(a2:Int):Option (Int):=
 chk (0≤a1∧a1<(↑a0.nodes.length:Int)) <|
 (F1 n ((get a0.nodes a1.toNat).links) a2).bind fun v3=>
 bif (!v3.2)then
  some (-1)
 else
  chk (0≤v3.1∧v3.1<(↑(((get a0.nodes a1.toNat).links).length):Int)) <|
  some ((get ((get a0.nodes a1.toNat).links) v3.1.toNat).to_)
def Y4(n:Nat)(a0:y5)(a1:Int)(k0:Nat)(s0:Unit):Option (Ctl (Bool) (Unit) (Unit)):=
 (kV n a0 0 (↑k0:Int)).bind fun v1=>
 bif (!decide ((decide (0≤v1))=(decide ((↑k0:Int)≤a1))))then
  some (.ret false)
 else
  some (.nxt ())
def gK(t0:Unit):Option (Bool):=
 some true
def dr(n:Nat)(a0:y5)(a1:Int):Option (Bool):=
 C2 (D1 (Y4 n a0 a1) 4 ()) (gK)
def L6(a0:Int)(jf:Int):Option (x6):=
 some (x6.mk a0 jf)
def eN(self:(u0)→(Int)→(Int)→Option (Int×Int))(a0:u0)(a1:Int)(k0:Nat)(s0:Int):Option (Ctl (Int×Int) (Int) (Int)):=
 (self (get a0.args k0) (wr .i64 (a1+1)) s0).bind fun v2=>
 bif (!decide (v2.1=0))then
  some (.ret (v2.1,v2.2))
 else
  some (.nxt v2.2)
def eO(t0:Int):Option (Int×Int):=
 some (0,t0)
def aI:Nat→(u0)→(Int)→(Int)→Option (Int×Int)
 |0,_,_,_=>none
 |n+1,a0,a1,jf=>
  bif (bif (decide (200<(wr .i64 (jf+1))))then true else(decide (40<a1)))then
   some (1,(wr .i64 (jf+1)))
  else
   bif (!(bif (bif (bif (decide (a0.base=[101]))then true else(decide (a0.base=[116])))then(decide ((↑a0.args.length:Int)=0))else false)then true else(bif (decide (a0.base=[]))then(decide ((↑a0.args.length:Int)=2))else false)))then
    some (5,(wr .i64 (jf+1)))
   else
    C2 (D1 (eN (aI n) a0 a1) a0.args.length (wr .i64 (jf+1))) (eO)
def dZ(n:Nat)(a0:u0):Option (x6):=
 (aI n a0 1 0).bind fun v1=>
 some (x6.mk v1.1 0)
def qv(a0:u0):Option (Bool):=
 some (bif (decide (a0.base=[]))then(decide ((↑a0.args.length:Int)=0))else false)
def bH:Nat→(w6)→(Int)→(Int)→(Int)→Option (x6×Int)
 |0,_,_,_,_=>none
 |n+1,a0,a1,a2,jf=>
  bif (bif (decide (200<(wr .i64 (jf+1))))then true else(decide (40<a1)))then
   (L6 1 jf).bind fun v1=>
   some (v1,(wr .i64 (jf+1)))
  else
   bif (decide (a0.kind=1))then
    bif (bif (!decide (a0.index=0))then true else(!decide ((↑a0.args.length:Int)=0)))then
     (L6 5 jf).bind fun v2=>
     some (v2,(wr .i64 (jf+1)))
    else
     (termName a0.name).bind fun v3=>
     bif (!v3)then
      (L6 10 jf).bind fun v4=>
      some (v4,(wr .i64 (jf+1)))
     else
      (dZ n a0.type).bind fun v5=>
      bif (!decide (v5.code=0))then
       (L6 12 jf).bind fun v6=>
       some (v6,(wr .i64 (jf+1)))
      else
       some ((x6.mk 0 0),(wr .i64 (jf+1)))
   else
    bif (decide (a0.kind=2))then
     (gd (!(!decide (a0.name=[]))) (qv a0.type) default).bind fun v7=>
     bif (bif (bif (!decide (a0.name=[]))then true else(!v7))then true else(!decide ((↑a0.args.length:Int)=0)))then
      (L6 5 jf).bind fun v8=>
      some (v8,(wr .i64 (jf+1)))
     else
      bif (bif (decide (a0.index<0))then true else(decide (a2≤a0.index)))then
       (L6 15 jf).bind fun v9=>
       some (v9,(wr .i64 (jf+1)))
      else
       some ((x6.mk 0 0),(wr .i64 (jf+1)))
    else
     bif (decide (a0.kind=3))then
      bif (bif (bif (!decide (a0.name=[]))then true else(!decide (a0.index=0)))then true else(!decide ((↑a0.args.length:Int)=1)))then
       (L6 5 jf).bind fun v10=>
       some (v10,(wr .i64 (jf+1)))
      else
       (dZ n a0.type).bind fun v11=>
       bif (!decide (v11.code=0))then
        (L6 12 jf).bind fun v12=>
        some (v12,(wr .i64 (jf+1)))
       else
        chk (0<(↑a0.args.length:Int)) <|
        (bH n (get a0.args 0) (wr .i64 (a1+1)) (wr .i64 (a2+1)) (wr .i64 (jf+1))).bind fun v14=>
        some (v14.1,v14.2)
     else
      bif (decide (a0.kind=4))then
       (gd (!(bif (!decide (a0.name=[]))then true else(!decide (a0.index=0)))) (qv a0.type) default).bind fun v15=>
       bif (bif (bif (bif (!decide (a0.name=[]))then true else(!decide (a0.index=0)))then true else(!v15))then true else(!decide ((↑a0.args.length:Int)=2)))then
        (L6 5 jf).bind fun v16=>
        some (v16,(wr .i64 (jf+1)))
       else
        chk (0<(↑a0.args.length:Int)) <|
        (bH n (get a0.args 0) (wr .i64 (a1+1)) a2 (wr .i64 (jf+1))).bind fun v18=>
        bif (!decide (v18.1.code=0))then
         some (v18.1,v18.2)
        else
         chk (1<(↑a0.args.length:Int)) <|
         (bH n (get a0.args 1) (wr .i64 (a1+1)) a2 v18.2).bind fun v20=>
         some (v20.1,v20.2)
      else
       (L6 4 jf).bind fun v21=>
       some (v21,(wr .i64 (jf+1)))
def kr(self:(u0)→(u0)→Option (Bool))(a1:u0)(a0:u0)(k0:Nat)(s0:Unit):Option (Ctl (Bool) (Unit) (Unit)):=
 chk ((↑k0:Int)<(↑a1.args.length:Int)) <|
 (self (get a0.args k0) (get a1.args k0)).bind fun v3=>
 bif (!v3)then
  some (.ret false)
 else
  some (.nxt ())
def ku(t0:Unit):Option (Bool):=
 some true
def cH:Nat→(u0)→(u0)→Option (Bool)
 |0,_,_=>none
 |n+1,a0,a1=>
  bif (bif (!decide (a0.base=a1.base))then true else(!decide ((↑a0.args.length:Int)=(↑a1.args.length:Int))))then
   some false
  else
   chk (a0.args.length≤9223372036854775807) <|
   C2 (D1 (kr (cH n) a1 a0) a0.args.length ()) (ku)
def aK:Nat→(w6)→((List u0))→Option (u0×Bool)
 |0,_,_=>none
 |n+1,a0,l0=>
  bif (decide (a0.kind=1))then
   some (a0.type,true)
  else
   bif (decide (a0.kind=2))then
    chk (0≤(wr .i64 ((wr .i64 ((↑l0.length:Int)-1))-a0.index))∧(wr .i64 ((wr .i64 ((↑l0.length:Int)-1))-a0.index))<(↑l0.length:Int)) <|
    some ((get l0 ((wr .i64 ((wr .i64 ((↑l0.length:Int)-1))-a0.index)).toNat)),true)
   else
    bif (decide (a0.kind=3))then
     chk (0≤(↑l0.length:Int)∧0≤(↑l0.length:Int)) <|
     cW (l0++[a0.type]) fun c8=>
     chk (c8.length*40≤top∧c8.length≤top) <|
     chk (0<(↑a0.args.length:Int)) <|
     (aK n (get a0.args 0) c8).bind fun v14=>
     some ((u0.mk [] [a0.type,v14.1]),v14.2)
    else
     chk (0<(↑a0.args.length:Int)) <|
     (aK n (get a0.args 0) l0).bind fun v17=>
     chk (1<(↑a0.args.length:Int)) <|
     (aK n (get a0.args 1) l0).bind fun v19=>
     chk (cX (!(bif (bif (!v17.2)then true else(!v19.2))then true else(!decide ((↑v17.1.args.length:Int)=2)))) (0<(↑v17.1.args.length:Int))) <|
     (gd (!(bif (bif (!v17.2)then true else(!v19.2))then true else(!decide ((↑v17.1.args.length:Int)=2)))) (cH n (get v17.1.args 0) v19.1) default).bind fun v22=>
     bif (bif (bif (bif (!v17.2)then true else(!v19.2))then true else(!decide ((↑v17.1.args.length:Int)=2)))then true else(!v22))then
      some ((u0.mk [] []),false)
     else
      chk (1<(↑v17.1.args.length:Int)) <|
      some ((get v17.1.args 1),true)
def gD:Nat→(w6)→((List u0))→Option (u0×Bool)
 |0,_,_=>none
 |n+1,a0,a1=>
  bif (decide (a0.kind=1))then
   some (a0.type,true)
  else
   bif (decide (a0.kind=2))then
    chk (0≤(wr .i64 ((wr .i64 ((↑a1.length:Int)-1))-a0.index))∧(wr .i64 ((wr .i64 ((↑a1.length:Int)-1))-a0.index))<(↑a1.length:Int)) <|
    some ((get a1 ((wr .i64 ((wr .i64 ((↑a1.length:Int)-1))-a0.index)).toNat)),true)
   else
    bif (decide (a0.kind=3))then
     chk (0≤(↑a1.length:Int)∧0≤(↑a1.length:Int)) <|
     cW (a1++[a0.type]) fun c6=>
     chk (c6.length*40≤top∧c6.length≤top) <|
     chk (0<(↑a0.args.length:Int)) <|
     (aK n (get a0.args 0) c6).bind fun v12=>
     some ((u0.mk [] [a0.type,v12.1]),v12.2)
    else
     chk (0<(↑a0.args.length:Int)) <|
     (gD n (get a0.args 0) a1).bind fun v15=>
     chk (1<(↑a0.args.length:Int)) <|
     (gD n (get a0.args 1) a1).bind fun v17=>
     chk (cX (!(bif (bif (!v15.2)then true else(!v17.2))then true else(!decide ((↑v15.1.args.length:Int)=2)))) (0<(↑v15.1.args.length:Int))) <|
     (gd (!(bif (bif (!v15.2)then true else(!v17.2))then true else(!decide ((↑v15.1.args.length:Int)=2)))) (cH n (get v15.1.args 0) v17.1) default).bind fun v20=>
     bif (bif (bif (bif (!v15.2)then true else(!v17.2))then true else(!decide ((↑v15.1.args.length:Int)=2)))then true else(!v20))then
      some ((u0.mk [] []),false)
     else
      chk (1<(↑v15.1.args.length:Int)) <|
      some ((get v15.1.args 1),true)
def fu(n:Nat)(a0:w6):Option (x6):=
 (bH n a0 1 0 0).bind fun v1=>
 bif (!decide (v1.1.code=0))then
  some v1.1
 else
  (gD n a0 []).bind fun v2=>
  bif (!v2.2)then
   some (x6.mk 12 (-1))
  else
   some (x6.mk 0 0)
def ld(n:Nat)(a0:w5)(a1:B6)(a2:w4):Option (Int):=
 bif (bif (bif (bif (decide (a2.kids<1))then true else(decide (3<a2.kids)))then true else(decide (a2.weight<0)))then true else(decide (1000000<a2.weight)))then
  some 3
 else
  (gQ n a0 a1 a2.graph).bind fun v1=>
  bif (!decide (v1.code=0))then
   some v1.code
  else
   (dr n a2.graph a2.kids).bind fun v2=>
   bif (!v2)then
    some 5
   else
    (fu n a2.meaning).bind fun v3=>
    some v3.code
def O1(a0:Bs)(s0:Nat×Int):Option (Ctl (Int) (Nat×Int) (Int)):=
 bif (decide (s0.1<a0.length))then
  some (.nxt ((s0.1+jB a0 s0.1),(wr .i64 (s0.2+1))))
 else
  some (.brk s0.2)
def W1(t0:Int):Option (Int):=
 some t0
def M6(n:Nat)(a0:Bs):Option (Int):=
 C2 (V2 (O1 a0) n (0,0)) (W1)
def F2(a0:Bs):Option (Int):=
 bif false then
  chk (0<(↑a0.length:Int)) <|
  chk (1<(↑a0.length:Int)) <|
  chk (2<(↑a0.length:Int)) <|
  chk (3<(↑a0.length:Int)) <|
  some (Y9 .or .u64 (Y9 .or .u64 (Y9 .or .u64 (wr .u64 (B2 a0 0)) (wr .u64 ((wr .u64 (B2 a0 1))*2^(min 8 64)))) (wr .u64 ((wr .u64 (B2 a0 2))*2^(min 16 64)))) (wr .u64 ((wr .u64 (B2 a0 3))*2^(min 24 64))))
 else
  chk (0<(↑a0.length:Int)) <|
  chk (1<(↑a0.length:Int)) <|
  chk (2<(↑a0.length:Int)) <|
  chk (3<(↑a0.length:Int)) <|
  chk (4<(↑a0.length:Int)) <|
  chk (5<(↑a0.length:Int)) <|
  chk (6<(↑a0.length:Int)) <|
  chk (7<(↑a0.length:Int)) <|
  some (Y9 .or .u64 (Y9 .or .u64 (Y9 .or .u64 (Y9 .or .u64 (Y9 .or .u64 (Y9 .or .u64 (Y9 .or .u64 (wr .u64 (B2 a0 0)) (wr .u64 ((wr .u64 (B2 a0 1))*2^(min 8 64)))) (wr .u64 ((wr .u64 (B2 a0 2))*2^(min 16 64)))) (wr .u64 ((wr .u64 (B2 a0 3))*2^(min 24 64)))) (wr .u64 ((wr .u64 (B2 a0 4))*2^(min 32 64)))) (wr .u64 ((wr .u64 (B2 a0 5))*2^(min 40 64)))) (wr .u64 ((wr .u64 (B2 a0 6))*2^(min 48 64)))) (wr .u64 ((wr .u64 (B2 a0 7))*2^(min 56 64))))
def L7(j3:Bs):Option (Ctl (Bool) (Bs) (Unit)):=
 some (.nxt j3)
def P7(s4:Bs):Option (Ctl (Ctl (Bool) (Bs) (Unit)) (Bs) (Bs)):=
 (gd (decide (32<(↑s4.length:Int))) (F2 s4) default).bind fun v100=>
 chk (cX (decide (32<(↑s4.length:Int))) (8≤s4.length)) <|
 (gd (decide (32<(↑s4.length:Int))) (F2 (s4.drop 8)) default).bind fun v103=>
 chk (cX (decide (32<(↑s4.length:Int))) (16≤s4.length)) <|
 (gd (decide (32<(↑s4.length:Int))) (F2 (s4.drop 16)) default).bind fun v106=>
 chk (cX (decide (32<(↑s4.length:Int))) (0≤24)∧cX (decide (32<(↑s4.length:Int))) (24≤s4.length)) <|
 (gd (decide (32<(↑s4.length:Int))) (F2 (s4.drop 24)) default).bind fun v110=>
 bif (bif (decide (32<(↑s4.length:Int)))then(decide ((Y9 .and .u64 (Y9 .or .u64 (Y9 .or .u64 v100 v103) (Y9 .or .u64 v106 v110)) 9259542123273814144)=0))else false)then
  chk (0≤32∧32≤s4.length) <|
  some (.nxt (s4.drop 32))
 else
  some (.brk s4)
def W2(t4:Bs):Option (Ctl (Bool) (Bs) (Unit)):=
 L7 t4
def P8(n:Nat)(s0:Bs):Option (Ctl (Bool) (Bs) (Unit)):=
 bif (decide (0<(↑s0.length:Int)))then
  chk (0<(↑s0.length:Int)) <|
  bif (decide ((B2 s0 0)<128))then
   chk (0≤1∧1≤s0.length) <|
   (gd (decide (8<(↑((s0.drop 1).length):Int))) (F2 (s0.drop 1)) default).bind fun v78=>
   bif (bif (decide (8<(↑((s0.drop 1).length):Int)))then(decide ((Y9 .and .u64 v78 9259542123273814144)=0))else false)then
    chk (0≤8∧8≤(s0.drop 1).length) <|
    (gd (decide (16<(↑(((s0.drop 1).drop 8).length):Int))) (F2 ((s0.drop 1).drop 8)) default).bind fun v81=>
    chk (cX (decide (16<(↑(((s0.drop 1).drop 8).length):Int))) (8≤((s0.drop 1).drop 8).length)) <|
    (gd (decide (16<(↑(((s0.drop 1).drop 8).length):Int))) (F2 (((s0.drop 1).drop 8).drop 8)) default).bind fun v84=>
    bif (bif (decide (16<(↑(((s0.drop 1).drop 8).length):Int)))then(decide ((Y9 .and .u64 (Y9 .or .u64 v81 v84) 9259542123273814144)=0))else false)then
     chk (0≤16∧16≤((s0.drop 1).drop 8).length) <|
     C2 (V2 (P7) n (((s0.drop 1).drop 8).drop 16)) (W2)
    else
     L7 ((s0.drop 1).drop 8)
   else
    L7 (s0.drop 1)
  else
   chk (0≤(B2 s0 0)∧(B2 s0 0)<256) <|
   chk (0≤(Int.fdiv (get nu ((B2 s0 0).toNat)) (2^(min 4 8)))∧(Int.fdiv (get nu ((B2 s0 0).toNat)) (2^(min 4 8)))<16) <|
   bif (decide ((wr .i64 (Y9 .and .u8 (get nu ((B2 s0 0).toNat)) 7))=2))then
    chk (cX (!(decide ((↑s0.length:Int)<2))) (1<(↑s0.length:Int))) <|
    chk (cX (!(bif (decide ((↑s0.length:Int)<2))then true else(decide ((B2 s0 1)<((get rj ((Int.fdiv (get nu ((B2 s0 0).toNat)) (2^(min 4 8))).toNat)).lo))))) (1<(↑s0.length:Int))) <|
    bif (bif (bif (decide ((↑s0.length:Int)<2))then true else(decide ((B2 s0 1)<((get rj ((Int.fdiv (get nu ((B2 s0 0).toNat)) (2^(min 4 8))).toNat)).lo))))then true else(decide (((get rj ((Int.fdiv (get nu ((B2 s0 0).toNat)) (2^(min 4 8))).toNat)).hi)<(B2 s0 1))))then
     some (.ret false)
    else
     chk (0≤2∧2≤s0.length) <|
     some (.nxt (s0.drop 2))
   else
    bif (decide ((wr .i64 (Y9 .and .u8 (get nu ((B2 s0 0).toNat)) 7))=3))then
     chk (cX (!(decide ((↑s0.length:Int)<3))) (1<(↑s0.length:Int))) <|
     chk (cX (!(bif (decide ((↑s0.length:Int)<3))then true else(decide ((B2 s0 1)<((get rj ((Int.fdiv (get nu ((B2 s0 0).toNat)) (2^(min 4 8))).toNat)).lo))))) (1<(↑s0.length:Int))) <|
     chk (cX (!(bif (bif (decide ((↑s0.length:Int)<3))then true else(decide ((B2 s0 1)<((get rj ((Int.fdiv (get nu ((B2 s0 0).toNat)) (2^(min 4 8))).toNat)).lo))))then true else(decide (((get rj ((Int.fdiv (get nu ((B2 s0 0).toNat)) (2^(min 4 8))).toNat)).hi)<(B2 s0 1))))) (2<(↑s0.length:Int))) <|
     chk (cX (!(bif (bif (bif (decide ((↑s0.length:Int)<3))then true else(decide ((B2 s0 1)<((get rj ((Int.fdiv (get nu ((B2 s0 0).toNat)) (2^(min 4 8))).toNat)).lo))))then true else(decide (((get rj ((Int.fdiv (get nu ((B2 s0 0).toNat)) (2^(min 4 8))).toNat)).hi)<(B2 s0 1))))then true else(decide ((B2 s0 2)<128)))) (2<(↑s0.length:Int))) <|
     bif (bif (bif (bif (bif (decide ((↑s0.length:Int)<3))then true else(decide ((B2 s0 1)<((get rj ((Int.fdiv (get nu ((B2 s0 0).toNat)) (2^(min 4 8))).toNat)).lo))))then true else(decide (((get rj ((Int.fdiv (get nu ((B2 s0 0).toNat)) (2^(min 4 8))).toNat)).hi)<(B2 s0 1))))then true else(decide ((B2 s0 2)<128)))then true else(decide (191<(B2 s0 2))))then
      some (.ret false)
     else
      chk (0≤3∧3≤s0.length) <|
      some (.nxt (s0.drop 3))
    else
     bif (decide ((wr .i64 (Y9 .and .u8 (get nu ((B2 s0 0).toNat)) 7))=4))then
      chk (cX (!(decide ((↑s0.length:Int)<4))) (1<(↑s0.length:Int))) <|
      chk (cX (!(bif (decide ((↑s0.length:Int)<4))then true else(decide ((B2 s0 1)<((get rj ((Int.fdiv (get nu ((B2 s0 0).toNat)) (2^(min 4 8))).toNat)).lo))))) (1<(↑s0.length:Int))) <|
      chk (cX (!(bif (bif (decide ((↑s0.length:Int)<4))then true else(decide ((B2 s0 1)<((get rj ((Int.fdiv (get nu ((B2 s0 0).toNat)) (2^(min 4 8))).toNat)).lo))))then true else(decide (((get rj ((Int.fdiv (get nu ((B2 s0 0).toNat)) (2^(min 4 8))).toNat)).hi)<(B2 s0 1))))) (2<(↑s0.length:Int))) <|
      chk (cX (!(bif (bif (bif (decide ((↑s0.length:Int)<4))then true else(decide ((B2 s0 1)<((get rj ((Int.fdiv (get nu ((B2 s0 0).toNat)) (2^(min 4 8))).toNat)).lo))))then true else(decide (((get rj ((Int.fdiv (get nu ((B2 s0 0).toNat)) (2^(min 4 8))).toNat)).hi)<(B2 s0 1))))then true else(decide ((B2 s0 2)<128)))) (2<(↑s0.length:Int))) <|
      chk (cX (!(bif (bif (bif (bif (decide ((↑s0.length:Int)<4))then true else(decide ((B2 s0 1)<((get rj ((Int.fdiv (get nu ((B2 s0 0).toNat)) (2^(min 4 8))).toNat)).lo))))then true else(decide (((get rj ((Int.fdiv (get nu ((B2 s0 0).toNat)) (2^(min 4 8))).toNat)).hi)<(B2 s0 1))))then true else(decide ((B2 s0 2)<128)))then true else(decide (191<(B2 s0 2))))) (3<(↑s0.length:Int))) <|
      chk (cX (!(bif (bif (bif (bif (bif (decide ((↑s0.length:Int)<4))then true else(decide ((B2 s0 1)<((get rj ((Int.fdiv (get nu ((B2 s0 0).toNat)) (2^(min 4 8))).toNat)).lo))))then true else(decide (((get rj ((Int.fdiv (get nu ((B2 s0 0).toNat)) (2^(min 4 8))).toNat)).hi)<(B2 s0 1))))then true else(decide ((B2 s0 2)<128)))then true else(decide (191<(B2 s0 2))))then true else(decide ((B2 s0 3)<128)))) (3<(↑s0.length:Int))) <|
      bif (bif (bif (bif (bif (bif (bif (decide ((↑s0.length:Int)<4))then true else(decide ((B2 s0 1)<((get rj ((Int.fdiv (get nu ((B2 s0 0).toNat)) (2^(min 4 8))).toNat)).lo))))then true else(decide (((get rj ((Int.fdiv (get nu ((B2 s0 0).toNat)) (2^(min 4 8))).toNat)).hi)<(B2 s0 1))))then true else(decide ((B2 s0 2)<128)))then true else(decide (191<(B2 s0 2))))then true else(decide ((B2 s0 3)<128)))then true else(decide (191<(B2 s0 3))))then
       some (.ret false)
      else
       chk (0≤4∧4≤s0.length) <|
       some (.nxt (s0.drop 4))
     else
      some (.ret false)
 else
  some (.brk ())
def bT(t0:Unit):Option (Bool):=
 some true
def V8(n:Nat)(a0:Bs):Option (Bool):=
 C2 (V2 (P8 n) n a0) (bT)
def dR(a0:Bs)(a1:Int):Option (Int):=
 (indexByte a0 a1).bind fun v1=>
 some v1
def cw(a0:Int):Option (Bool):=
 bif (bif (decide (0≤a0))then(decide (a0<55296))else false)then
  some true
 else
  bif (bif (decide (57343<a0))then(decide (a0≤1114111))else false)then
   some true
  else
   some false
def dy(a0:Bs)(s0:Nat):Option (Ctl (Int) (Nat) (Unit)):=
 bif (decide (s0<a0.length))then
  chk (s0<a0.length) <|
  bif (decide ((rune a0 s0)=65533))then
   some (.ret (↑s0:Int))
  else
   some (.nxt (s0+jB a0 s0))
 else
  some (.brk ())
def gT(t0:Unit):Option (Int):=
 some (-1)
def gU(a1:Int)(j2:Int)(a0:Bs)(s3:Int):Option (Ctl (Ctl (Int) (Unit) (Unit)) (Int) (Unit)):=
 bif (decide (s3<(↑((L0 a1).length):Int)))then
  chk (0≤(wr .i64 (j2-s3))∧(wr .i64 (j2-s3))<(↑a0.length:Int)) <|
  chk (0≤(wr .i64 ((wr .i64 ((↑((L0 a1).length):Int)-1))-s3))∧(wr .i64 ((wr .i64 ((↑((L0 a1).length):Int)-1))-s3))<(↑((L0 a1).length):Int)) <|
  bif (!decide ((B2 a0 (wr .i64 (j2-s3)))=(B2 (L0 a1) (wr .i64 ((wr .i64 ((↑((L0 a1).length):Int)-1))-s3)))))then
   none
  else
   some (.nxt (wr .i64 (s3+1)))
 else
  some (.brk ())
def gV(j2:Int)(a1:Int)(t3:Unit):Option (Ctl (Int) (Unit) (Unit)):=
 some (.ret (wr .i64 (j2-(wr .i64 ((↑((L0 a1).length):Int)-1)))))
def dJ(n:Nat)(a1:Int)(a0:Bs)(j2:Int):Option (Ctl (Int) (Unit) (Unit)):=
 C2 (V2 (gU a1 j2 a0) n 1) (gV j2 a1)
def aL(n:Nat)(a1:Int)(a0:Bs)(s1:Unit):Option (Ctl (Int) (Unit) (Unit)):=
 bif (decide ((wr .i64 ((↑((L0 a1).length):Int)-1))<(↑a0.length:Int)))then
  chk (0≤(wr .i64 ((↑((L0 a1).length):Int)-1))∧(wr .i64 ((↑((L0 a1).length):Int)-1))<(↑a0.length:Int)) <|
  chk ((wr .i64 ((↑((L0 a1).length):Int)-1))<(↑((L0 a1).length):Int)) <|
  bif (!decide ((B2 a0 (wr .i64 ((↑((L0 a1).length):Int)-1)))=(B2 (L0 a1) (wr .i64 ((↑((L0 a1).length):Int)-1)))))then
   chk (0≤(wr .i64 ((wr .i64 ((↑((L0 a1).length):Int)-1))+1))∧(wr .i64 ((wr .i64 ((↑((L0 a1).length):Int)-1))+1)).toNat≤a0.length) <|
   (dR (a0.drop ((wr .i64 ((wr .i64 ((↑((L0 a1).length):Int)-1))+1)).toNat)) (B2 (L0 a1) (wr .i64 ((↑((L0 a1).length):Int)-1)))).bind fun v10=>
   bif (decide (v10<0))then
    some (.ret (-1))
   else
    dJ n a1 a0 (wr .i64 ((wr .i64 ((↑((L0 a1).length):Int)-1))+(wr .i64 (v10+1))))
  else
   dJ n a1 a0 (wr .i64 ((↑((L0 a1).length):Int)-1))
 else
  some (.brk ())
def gW(t1:Unit):Option (Int):=
 some (-1)
def bw(n:Nat)(a0:Bs)(a1:Int):Option (Int):=
 bif (bif (decide (0≤a1))then(decide (a1<128))else false)then
  (dR a0 (wr .u8 a1)).bind fun v1=>
  some v1
 else
  bif (decide (a1=65533))then
   C2 (V2 (dy a0) n 0) (gT)
  else
   (cw a1).bind fun v4=>
   bif (!v4)then
    some (-1)
   else
    C2 (V2 (aL n a1 a0) n ()) (gW)
def cP(a0:Int):Option (Bool):=
 some (decide (8<a0))
def dK(n:Nat)(a0:Bs)(j0:Int):Option (Int):=
 (bw n a0 j0).bind fun v2=>
 some v2
def dA(n:Nat)(a0:Bs)(a1:Bs)(s2:Nat):Option (Ctl (Int) (Nat) (Unit)):=
 bif (decide (s2<a0.length))then
  chk (s2<a0.length) <|
  (bw n a1 (rune a0 s2)).bind fun v7=>
  bif (decide (0≤v7))then
   some (.ret (↑s2:Int))
  else
   some (.nxt (s2+jB a0 s2))
 else
  some (.brk ())
def gX(t2:Unit):Option (Int):=
 some (-1)
def dz(n:Nat)(a0:Bs)(a1:Bs)(j1:Unit):Option (Int):=
 C2 (V2 (dA n a0 a1) n 0) (gX)
def gL(n:Nat)(a0:Bs)(a1:Bs):Option (Int):=
 bif (decide (a1=[]))then
  some (-1)
 else
  bif (decide ((↑a1.length:Int)=1))then
   chk (0<(↑a1.length:Int)) <|
   bif (decide (128≤(wr .i32 (B2 a1 0))))then
    dK n a0 65533
   else
    dK n a0 (wr .i32 (B2 a1 0))
  else
   (cP (↑a0.length:Int)).bind fun v3=>
   bif v3 then
    none
   else
    dz n a0 a1 ()
def iN(n:Nat)(a0:Bs)(a1:Bs):Option (Int):=
 bif decide (8<a0.length)then chk (2≤a1.length∧a0.length<4294967281∧a1.length<4294967281∧a1.all (fun b=>decide (b.toNat<128))=true) (some (Lib.indexAny a0 a1))
 else gL n a0 a1
def X9(n:Nat)(a0:Bs)(a1:Bs):Option (Bool):=
 (iN n a0 a1).bind fun v1=>
 some (decide (0≤v1))
def kZ(n:Nat)(a0:Bs):Option (Bool):=
 (M6 n a0).bind fun v1=>
 (gd (bif (decide (1≤v1))then(decide (v1≤30))else false) (V8 n a0) default).bind fun v2=>
 (gd (bif (bif (decide (1≤v1))then(decide (v1≤30))else false)then v2 else false) (X9 n a0 [32,9,10,40,41,91,93,44,59]) default).bind fun v3=>
 some (bif (bif (bif (decide (1≤v1))then(decide (v1≤30))else false)then v2 else false)then(!v3)else false)
def jG(n:Nat)(a0:w5)(a1:B6)(a2:x7):Option (Int):=
 (kZ n a2.word).bind fun v1=>
 bif (!v1)then
  some 10
 else
  bif (bif (decide (a2.weight<0))then true else(decide (1000000<a2.weight)))then
   some 3
  else
   (gQ n a0 a1 a2.graph).bind fun v2=>
   bif (!decide (v2.code=0))then
    some v2.code
   else
    (fu n a2.meaning).bind fun v3=>
    some v3.code
def eP(n:Nat)(a0:x9)(v4:B6)(k0:Nat)(s0:(List (Bs×Int))):Option (Ctl (x6) ((List (Bs×Int))) ((List (Bs×Int)))):=
 (termName ((get a0.rules k0).name)).bind fun v12=>
 bif (!v12)then
  (aA 10 (↑k0:Int)).bind fun v13=>
  some (.ret v13)
 else
  bif (assoc ((get a0.rules k0).name) s0).isSome then
   (aA 7 (↑k0:Int)).bind fun v14=>
   some (.ret v14)
  else
   cW (L5 ((get a0.rules k0).name) (↑k0:Int) s0) fun c15=>
   (ld n a0.hierarchy v4 (get a0.rules k0)).bind fun v17=>
   bif (!decide (v17=0))then
    (aA v17 (↑k0:Int)).bind fun v18=>
    some (.ret v18)
   else
    some (.nxt c15)
def eS(n:Nat)(a0:x9)(v4:B6)(k1:Nat)(s1:Unit):Option (Ctl (x6) (Unit) (Unit)):=
 (jG n a0.hierarchy v4 (get a0.y9 k1)).bind fun v19=>
 bif (!decide (v19=0))then
  (aA v19 (↑k1:Int)).bind fun v20=>
  some (.ret v20)
 else
  some (.nxt ())
def eU(n:Nat)(a0:x9)(v4:B6)(t1:Unit):Option (x6):=
 (gQ n a0.hierarchy v4 a0.start).bind fun v21=>
 bif (!decide (v21.code=0))then
  (aA v21.code (-1)).bind fun v22=>
  some v22
 else
  some (x6.mk 0 0)
def eR(n:Nat)(a0:x9)(v4:B6)(t0:(List (Bs×Int))):Option (x6):=
 C2 (D1 (eS n a0 v4) a0.y9.length ()) (eU n a0 v4)
def N7(n:Nat)(a0:x9):Option (x6):=
 (cG a0.hierarchy).bind fun v1=>
 bif (!decide (v1.code=0))then
  some v1
 else
  bif (decide ((↑a0.hierarchy.B1.length:Int)≤3))then
   (aA 9 (-1)).bind fun v2=>
   some v2
  else
   bif (bif (decide (40<(↑a0.rules.length:Int)))then true else(decide (100<(↑a0.y9.length:Int))))then
    (aA 2 (-1)).bind fun v3=>
    some v3
   else
    (cF a0.hierarchy.types).bind fun v4=>
    C2 (D1 (eP n a0 v4) a0.rules.length []) (eR n a0 v4)
def gq(a1:(List Int))(a0:(List Int))(k0:Nat)(s0:Unit):Option (Ctl (Bool) (Unit) (Unit)):=
 chk ((↑k0:Int)<(↑a1.length:Int)) <|
 bif (!decide ((get a0 k0)=(get a1 k0)))then
  some (.ret false)
 else
  some (.nxt ())
def gu(t0:Unit):Option (Bool):=
 some true
def aF(a0:(List Int))(a1:(List Int)):Option (Bool):=
 bif (!decide ((↑a0.length:Int)=(↑a1.length:Int)))then
  some false
 else
  C2 (D1 (gq a1 a0) a0.length ()) (gu)
def bI(a0:w8)(a1:w8):Option (Bool):=
 (gd (decide (a0.name=a1.name)) (aF a0.parents a1.parents) default).bind fun v1=>
 some (bif (decide (a0.name=a1.name))then v1 else false)
def I7(a1:(List w8))(a0:(List w8))(k0:Nat)(s0:Unit):Option (Ctl (Bool) (Unit) (Unit)):=
 chk ((↑k0:Int)<(↑a1.length:Int)) <|
 (bI (get a0 k0) (get a1 k0)).bind fun v2=>
 bif (!v2)then
  some (.ret false)
 else
  some (.nxt ())
def I8(t0:Unit):Option (Bool):=
 some true
def G0(a0:(List w8))(a1:(List w8)):Option (Bool):=
 bif (!decide ((↑a0.length:Int)=(↑a1.length:Int)))then
  some false
 else
  C2 (D1 (I7 a1 a0) a0.length ()) (I8)
def aq(a1:(List y3))(a0:(List y3))(k0:Nat)(s0:Unit):Option (Ctl (Bool) (Unit) (Unit)):=
 chk ((↑k0:Int)<(↑a1.length:Int)) <|
 bif (!(decide ((get a0 k0).name=(get a1 k0).name)&&(decide ((get a0 k0).of_=(get a1 k0).of_)&&(decide ((get a0 k0).value=(get a1 k0).value)))))then
  some (.ret false)
 else
  some (.nxt ())
def au(t0:Unit):Option (Bool):=
 some true
def L8(a0:(List y3))(a1:(List y3)):Option (Bool):=
 bif (!decide ((↑a0.length:Int)=(↑a1.length:Int)))then
  some false
 else
  C2 (D1 (aq a1 a0) a0.length ()) (au)
def cI(a0:w5)(a1:w5):Option (Bool):=
 (G0 a0.types a1.types).bind fun v1=>
 (gd v1 (L8 a0.B1 a1.B1) default).bind fun v2=>
 some (bif v1 then v2 else false)
def bU(a0:(List y3)):Option (List y3):=
 some a0
def jm(a0:(List Int)):Option (List Int):=
 some a0
def fE(a0:w5)(k0:Nat)(s0:(List w8)):Option (Ctl (w5) ((List w8)) ((List w8))):=
 (jm ((get a0.types k0).parents)).bind fun v9=>
 cW (s0++[(w8.mk ((get a0.types k0).name) v9)]) fun c11=>
 chk (c11.length*40≤top∧c11.length≤top) <|
 some (.nxt c11)
def fF(v1:(List y3))(t0:(List w8)):Option (w5):=
 some (w5.mk t0 v1)
def Y0(a0:w5):Option (w5):=
 (bU a0.B1).bind fun v1=>
 C2 (D1 (fE a0) a0.types.length []) (fF v1)
def gE(a0:x5)(a1:x5):Option (Bool):=
 (gd (decide (a0.type=a1.type)) (L9 a0.links a1.links) default).bind fun v1=>
 some (bif (decide (a0.type=a1.type))then v1 else false)
def I9(a1:(List x5))(a0:(List x5))(k0:Nat)(s0:Unit):Option (Ctl (Bool) (Unit) (Unit)):=
 chk ((↑k0:Int)<(↑a1.length:Int)) <|
 (gE (get a0 k0) (get a1 k0)).bind fun v2=>
 bif (!v2)then
  some (.ret false)
 else
  some (.nxt ())
def J0(t0:Unit):Option (Bool):=
 some true
def G1(a0:(List x5))(a1:(List x5)):Option (Bool):=
 bif (!decide ((↑a0.length:Int)=(↑a1.length:Int)))then
  some false
 else
  C2 (D1 (I9 a1 a0) a0.length ()) (J0)
def dB(a0:y5)(a1:y5):Option (Bool):=
 (G1 a0.nodes a1.nodes).bind fun v1=>
 some v1
def bV(a0:(List D3)):Option (List D3):=
 some a0
def jo(a0:y5)(k0:Nat)(s0:(List x5)):Option (Ctl (y5) ((List x5)) ((List x5))):=
 (bV ((get a0.nodes k0).links)).bind fun v8=>
 cW (s0++[(x5.mk ((get a0.nodes k0).type) v8)]) fun c10=>
 chk (c10.length*32≤top∧c10.length≤top) <|
 some (.nxt c10)
def jq(t0:(List x5)):Option (y5):=
 some (y5.mk t0)
def aC(a0:y5):Option (y5):=
 C2 (D1 (jo a0) a0.nodes.length []) (jq)
def F8(U9:(u0)→(u0)→Option (Bool))(a1:(List u0))(a0:(List u0))(k0:Nat)(s0:Unit):Option (Ctl (Bool) (Unit) (Unit)):=
 chk ((↑k0:Int)<(↑a1.length:Int)) <|
 (U9 (get a0 k0) (get a1 k0)).bind fun v2=>
 bif (!v2)then
  some (.ret false)
 else
  some (.nxt ())
def F9(t0:Unit):Option (Bool):=
 some true
def E5(U9:(u0)→(u0)→Option (Bool))(a0:(List u0))(a1:(List u0)):Option (Bool):=
 bif (!decide ((↑a0.length:Int)=(↑a1.length:Int)))then
  some false
 else
  C2 (D1 (F8 U9 a1 a0) a0.length ()) (F9)
def aB:Nat→(u0)→(u0)→Option (Bool)
 |0,_,_=>none
 |n+1,a0,a1=>
  (gd (decide (a0.base=a1.base)) (E5 (aB n) a0.args a1.args) default).bind fun v1=>
  some (bif (decide (a0.base=a1.base))then v1 else false)
def J1(Y6:(w6)→(w6)→Option (Bool))(a1:(List w6))(a0:(List w6))(k0:Nat)(s0:Unit):Option (Ctl (Bool) (Unit) (Unit)):=
 chk ((↑k0:Int)<(↑a1.length:Int)) <|
 (Y6 (get a0 k0) (get a1 k0)).bind fun v2=>
 bif (!v2)then
  some (.ret false)
 else
  some (.nxt ())
def J2(t0:Unit):Option (Bool):=
 some true
def G2(Y6:(w6)→(w6)→Option (Bool))(a0:(List w6))(a1:(List w6)):Option (Bool):=
 bif (!decide ((↑a0.length:Int)=(↑a1.length:Int)))then
  some false
 else
  C2 (D1 (J1 Y6 a1 a0) a0.length ()) (J2)
def bJ:Nat→(w6)→(w6)→Option (Bool)
 |0,_,_=>none
 |n+1,a0,a1=>
  (gd (bif (bif (decide (a0.kind=a1.kind))then(decide (a0.name=a1.name))else false)then(decide (a0.index=a1.index))else false) (aB n a0.type a1.type) default).bind fun v1=>
  (gd (bif (bif (bif (decide (a0.kind=a1.kind))then(decide (a0.name=a1.name))else false)then(decide (a0.index=a1.index))else false)then v1 else false) (G2 (bJ n) a0.args a1.args) default).bind fun v2=>
  some (bif (bif (bif (bif (decide (a0.kind=a1.kind))then(decide (a0.name=a1.name))else false)then(decide (a0.index=a1.index))else false)then v1 else false)then v2 else false)
def R5(n:Nat)(a0:w4)(a1:w4):Option (Bool):=
 (gd (bif (bif (decide (a0.name=a1.name))then(decide (a0.kids=a1.kids))else false)then(decide (a0.weight=a1.weight))else false) (dB a0.graph a1.graph) default).bind fun v1=>
 (gd (bif (bif (bif (decide (a0.name=a1.name))then(decide (a0.kids=a1.kids))else false)then(decide (a0.weight=a1.weight))else false)then v1 else false) (bJ n a0.meaning a1.meaning) default).bind fun v2=>
 some (bif (bif (bif (bif (decide (a0.name=a1.name))then(decide (a0.kids=a1.kids))else false)then(decide (a0.weight=a1.weight))else false)then v1 else false)then v2 else false)
def xG(n:Nat)(a0 a1:List w4):Option (List (List Int)):=
 chk ((a0.length+1)*24≤top∧(a1.length+1)*8≤top) <|
 chk ((a0.all fun x=>a1.all fun y=>(R5 n x y).isSome)=true) <|
 some (Lcs.tab (fun x y=>(R5 n x y).getD false) a0 a1)
def aO(n:Nat)(a0:(List w4))(a1:(List w4))(s3:Int×Int×Int):Option (Ctl (Ctl ((List w7)) ((List w7)×Int×Int) ((List w7))) (Int×Int×Int) (Int×Int×Int)):=
 chk (cX (bif (decide (s3.2.1<(↑a0.length:Int)))then(decide (s3.2.2<(↑a1.length:Int)))else false) (0≤s3.2.1)∧cX (bif (decide (s3.2.1<(↑a0.length:Int)))then(decide (s3.2.2<(↑a1.length:Int)))else false) (s3.2.1<(↑a0.length:Int))) <|
 chk (cX (bif (decide (s3.2.1<(↑a0.length:Int)))then(decide (s3.2.2<(↑a1.length:Int)))else false) (0≤s3.2.2)∧cX (bif (decide (s3.2.1<(↑a0.length:Int)))then(decide (s3.2.2<(↑a1.length:Int)))else false) (s3.2.2<(↑a1.length:Int))) <|
 (gd (bif (decide (s3.2.1<(↑a0.length:Int)))then(decide (s3.2.2<(↑a1.length:Int)))else false) (R5 n (get a0 s3.2.1.toNat) (get a1 s3.2.2.toNat)) default).bind fun v83=>
 bif (bif (bif (decide (s3.2.1<(↑a0.length:Int)))then(decide (s3.2.2<(↑a1.length:Int)))else false)then v83 else false)then
  some (.nxt ((wr .i64 (s3.1+1)),(wr .i64 (s3.2.1+1)),(wr .i64 (s3.2.2+1))))
 else
  some (.brk (s3.1,s3.2.1,s3.2.2))
def aP(n:Nat)(a0:(List w4))(a1:(List w4))(v1:(List (List Int)))(s4:Int×(List w4)×Int×Int):Option (Ctl (Ctl ((List w7)) ((List w7)×Int×Int) ((List w7))) (Int×(List w4)×Int×Int) (Int×(List w4)×Int×Int)):=
 chk (cX ((bif (decide (s4.2.2.1<(↑a0.length:Int)))then true else(decide (s4.2.2.2<(↑a1.length:Int))))&&(bif (decide (s4.2.2.1<(↑a0.length:Int)))then(decide (s4.2.2.2<(↑a1.length:Int)))else false)) (0≤s4.2.2.1)∧cX ((bif (decide (s4.2.2.1<(↑a0.length:Int)))then true else(decide (s4.2.2.2<(↑a1.length:Int))))&&(bif (decide (s4.2.2.1<(↑a0.length:Int)))then(decide (s4.2.2.2<(↑a1.length:Int)))else false)) (s4.2.2.1<(↑a0.length:Int))) <|
 chk (cX ((bif (decide (s4.2.2.1<(↑a0.length:Int)))then true else(decide (s4.2.2.2<(↑a1.length:Int))))&&(bif (decide (s4.2.2.1<(↑a0.length:Int)))then(decide (s4.2.2.2<(↑a1.length:Int)))else false)) (0≤s4.2.2.2)∧cX ((bif (decide (s4.2.2.1<(↑a0.length:Int)))then true else(decide (s4.2.2.2<(↑a1.length:Int))))&&(bif (decide (s4.2.2.1<(↑a0.length:Int)))then(decide (s4.2.2.2<(↑a1.length:Int)))else false)) (s4.2.2.2<(↑a1.length:Int))) <|
 (gd ((bif (decide (s4.2.2.1<(↑a0.length:Int)))then true else(decide (s4.2.2.2<(↑a1.length:Int))))&&(bif (decide (s4.2.2.1<(↑a0.length:Int)))then(decide (s4.2.2.2<(↑a1.length:Int)))else false)) (R5 n (get a0 s4.2.2.1.toNat) (get a1 s4.2.2.2.toNat)) default).bind fun v117=>
 bif (bif (bif (decide (s4.2.2.1<(↑a0.length:Int)))then true else(decide (s4.2.2.2<(↑a1.length:Int))))then(!(bif (bif (decide (s4.2.2.1<(↑a0.length:Int)))then(decide (s4.2.2.2<(↑a1.length:Int)))else false)then v117 else false))else false)then
  chk (cX ((!(decide (s4.2.2.2=(↑a1.length:Int))))&&(decide (s4.2.2.1<(↑a0.length:Int)))) (0≤(wr .i64 (s4.2.2.1+1)))∧cX ((!(decide (s4.2.2.2=(↑a1.length:Int))))&&(decide (s4.2.2.1<(↑a0.length:Int)))) ((wr .i64 (s4.2.2.1+1))<(↑v1.length:Int))) <|
  chk (cX ((!(decide (s4.2.2.2=(↑a1.length:Int))))&&(decide (s4.2.2.1<(↑a0.length:Int)))) (0≤s4.2.2.2)∧cX ((!(decide (s4.2.2.2=(↑a1.length:Int))))&&(decide (s4.2.2.1<(↑a0.length:Int)))) (s4.2.2.2<(↑((get v1 ((wr .i64 (s4.2.2.1+1)).toNat)).length):Int))) <|
  chk (cX ((!(decide (s4.2.2.2=(↑a1.length:Int))))&&(decide (s4.2.2.1<(↑a0.length:Int)))) (0≤s4.2.2.1)∧cX ((!(decide (s4.2.2.2=(↑a1.length:Int))))&&(decide (s4.2.2.1<(↑a0.length:Int)))) (s4.2.2.1<(↑v1.length:Int))) <|
  chk (cX ((!(decide (s4.2.2.2=(↑a1.length:Int))))&&(decide (s4.2.2.1<(↑a0.length:Int)))) (0≤(wr .i64 (s4.2.2.2+1)))∧cX ((!(decide (s4.2.2.2=(↑a1.length:Int))))&&(decide (s4.2.2.1<(↑a0.length:Int)))) ((wr .i64 (s4.2.2.2+1))<(↑((get v1 s4.2.2.1.toNat).length):Int))) <|
  bif (bif (decide (s4.2.2.2=(↑a1.length:Int)))then true else(bif (decide (s4.2.2.1<(↑a0.length:Int)))then(decide ((get (get v1 s4.2.2.1.toNat) ((wr .i64 (s4.2.2.2+1)).toNat))≤(get (get v1 ((wr .i64 (s4.2.2.1+1)).toNat)) s4.2.2.2.toNat)))else false))then
   some (.nxt ((wr .i64 (s4.1+1)),s4.2.1,(wr .i64 (s4.2.2.1+1)),s4.2.2.2))
  else
   chk (0≤s4.2.2.2∧s4.2.2.2<(↑a1.length:Int)) <|
   cW (s4.2.1++[(get a1 s4.2.2.2.toNat)]) fun c133=>
   chk (c133.length*152≤top∧c133.length≤top) <|
   some (.nxt (s4.1,c133,s4.2.2.1,(wr .i64 (s4.2.2.2+1))))
 else
  some (.brk (s4.1,s4.2.1,s4.2.2.1,s4.2.2.2))
def dG(s0:(List w7)×Int×Int)(t3:Int×Int×Int)(t4:Int×(List w4)×Int×Int):Option (Ctl ((List w7)) ((List w7)×Int×Int) ((List w7))):=
 chk ((s0.1.length+1)*40≤top∧s0.1.length+1≤top) <|
 some (.nxt ((s0.1++[(w7.mk t3.1 t4.1 t4.2.1)]),t4.2.2.1,t4.2.2.2))
def dF(n:Nat)(a0:(List w4))(a1:(List w4))(v1:(List (List Int)))(s0:(List w7)×Int×Int)(t3:Int×Int×Int):Option (Ctl ((List w7)) ((List w7)×Int×Int) ((List w7))):=
 C2 (V2 (aP n a0 a1 v1) n (0,[],t3.2.1,t3.2.2)) (dG s0 t3)
def dD(n:Nat)(a0:(List w4))(a1:(List w4))(v1:(List (List Int)))(s0:(List w7)×Int×Int):Option (Ctl ((List w7)) ((List w7)×Int×Int) ((List w7))):=
 bif (bif (decide (s0.2.1<(↑a0.length:Int)))then true else(decide (s0.2.2<(↑a1.length:Int))))then
  C2 (V2 (aO n a0 a1) n (0,s0.2.1,s0.2.2)) (dF n a0 a1 v1 s0)
 else
  some (.brk s0.1)
def gY(t0:(List w7)):Option ((List w7)):=
 some t0
def dS(n:Nat)(a0:(List w4))(a1:(List w4)):Option ((List w7)):=
 (xG n a0 a1).bind fun v1=>
 C2 (V2 (dD n a0 a1 v1) n ([],0,0)) (gY)
def iV(self:(u0)→Option (u0))(a0:u0)(k0:Nat)(s0:(List u0)):Option (Ctl (u0) ((List u0)) ((List u0))):=
 (self (get a0.args k0)).bind fun v8=>
 cW (s0++[v8]) fun c10=>
 chk (c10.length*40≤top∧c10.length≤top) <|
 some (.nxt c10)
def iW(a0:u0)(t0:(List u0)):Option (u0):=
 some (u0.mk a0.base t0)
def X2:Nat→(u0)→Option (u0)
 |0,_=>none
 |n+1,a0=>
  C2 (D1 (iV (X2 n) a0) a0.args.length []) (iW a0)
def jT(self:(w6)→Option (w6))(a0:w6)(k0:Nat)(s0:(List w6)):Option (Ctl (w6) ((List w6)) ((List w6))):=
 (self (get a0.args k0)).bind fun v9=>
 cW (s0++[v9]) fun c11=>
 chk (c11.length*96≤top∧c11.length≤top) <|
 some (.nxt c11)
def jU(a0:w6)(v1:u0)(t0:(List w6)):Option (w6):=
 some (w6.mk a0.kind a0.name a0.index v1 t0)
def aj:Nat→(w6)→Option (w6)
 |0,_=>none
 |n+1,a0=>
  (X2 n a0.type).bind fun v1=>
  C2 (D1 (jT (aj n) a0) a0.args.length []) (jU a0 v1)
def bN(n:Nat)(a0:w4):Option (w4):=
 (aC a0.graph).bind fun v1=>
 (aj n a0.meaning).bind fun v2=>
 some (w4.mk a0.name v1 a0.kids a0.weight v2)
def W0(n:Nat)(a0:x7)(a1:x7):Option (Bool):=
 (gd (bif (decide (a0.word=a1.word))then(decide (a0.weight=a1.weight))else false) (dB a0.graph a1.graph) default).bind fun v1=>
 (gd (bif (bif (decide (a0.word=a1.word))then(decide (a0.weight=a1.weight))else false)then v1 else false) (bJ n a0.meaning a1.meaning) default).bind fun v2=>
 some (bif (bif (bif (decide (a0.word=a1.word))then(decide (a0.weight=a1.weight))else false)then v1 else false)then v2 else false)
def Co(n:Nat)(a0 a1:List x7):Option (List (List Int)):=
 chk ((a0.length+1)*24≤top∧(a1.length+1)*8≤top) <|
 chk ((a0.all fun x=>a1.all fun y=>(W0 n x y).isSome)=true) <|
 some (Lcs.tab (fun x y=>(W0 n x y).getD false) a0 a1)
def bK(n:Nat)(a0:(List x7))(a1:(List x7))(s3:Int×Int×Int):Option (Ctl (Ctl ((List w9)) ((List w9)×Int×Int) ((List w9))) (Int×Int×Int) (Int×Int×Int)):=
 chk (cX (bif (decide (s3.2.1<(↑a0.length:Int)))then(decide (s3.2.2<(↑a1.length:Int)))else false) (0≤s3.2.1)∧cX (bif (decide (s3.2.1<(↑a0.length:Int)))then(decide (s3.2.2<(↑a1.length:Int)))else false) (s3.2.1<(↑a0.length:Int))) <|
 chk (cX (bif (decide (s3.2.1<(↑a0.length:Int)))then(decide (s3.2.2<(↑a1.length:Int)))else false) (0≤s3.2.2)∧cX (bif (decide (s3.2.1<(↑a0.length:Int)))then(decide (s3.2.2<(↑a1.length:Int)))else false) (s3.2.2<(↑a1.length:Int))) <|
 (gd (bif (decide (s3.2.1<(↑a0.length:Int)))then(decide (s3.2.2<(↑a1.length:Int)))else false) (W0 n (get a0 s3.2.1.toNat) (get a1 s3.2.2.toNat)) default).bind fun v83=>
 bif (bif (bif (decide (s3.2.1<(↑a0.length:Int)))then(decide (s3.2.2<(↑a1.length:Int)))else false)then v83 else false)then
  some (.nxt ((wr .i64 (s3.1+1)),(wr .i64 (s3.2.1+1)),(wr .i64 (s3.2.2+1))))
 else
  some (.brk (s3.1,s3.2.1,s3.2.2))
def bL(n:Nat)(a0:(List x7))(a1:(List x7))(v1:(List (List Int)))(s4:Int×(List x7)×Int×Int):Option (Ctl (Ctl ((List w9)) ((List w9)×Int×Int) ((List w9))) (Int×(List x7)×Int×Int) (Int×(List x7)×Int×Int)):=
 chk (cX ((bif (decide (s4.2.2.1<(↑a0.length:Int)))then true else(decide (s4.2.2.2<(↑a1.length:Int))))&&(bif (decide (s4.2.2.1<(↑a0.length:Int)))then(decide (s4.2.2.2<(↑a1.length:Int)))else false)) (0≤s4.2.2.1)∧cX ((bif (decide (s4.2.2.1<(↑a0.length:Int)))then true else(decide (s4.2.2.2<(↑a1.length:Int))))&&(bif (decide (s4.2.2.1<(↑a0.length:Int)))then(decide (s4.2.2.2<(↑a1.length:Int)))else false)) (s4.2.2.1<(↑a0.length:Int))) <|
 chk (cX ((bif (decide (s4.2.2.1<(↑a0.length:Int)))then true else(decide (s4.2.2.2<(↑a1.length:Int))))&&(bif (decide (s4.2.2.1<(↑a0.length:Int)))then(decide (s4.2.2.2<(↑a1.length:Int)))else false)) (0≤s4.2.2.2)∧cX ((bif (decide (s4.2.2.1<(↑a0.length:Int)))then true else(decide (s4.2.2.2<(↑a1.length:Int))))&&(bif (decide (s4.2.2.1<(↑a0.length:Int)))then(decide (s4.2.2.2<(↑a1.length:Int)))else false)) (s4.2.2.2<(↑a1.length:Int))) <|
 (gd ((bif (decide (s4.2.2.1<(↑a0.length:Int)))then true else(decide (s4.2.2.2<(↑a1.length:Int))))&&(bif (decide (s4.2.2.1<(↑a0.length:Int)))then(decide (s4.2.2.2<(↑a1.length:Int)))else false)) (W0 n (get a0 s4.2.2.1.toNat) (get a1 s4.2.2.2.toNat)) default).bind fun v117=>
 bif (bif (bif (decide (s4.2.2.1<(↑a0.length:Int)))then true else(decide (s4.2.2.2<(↑a1.length:Int))))then(!(bif (bif (decide (s4.2.2.1<(↑a0.length:Int)))then(decide (s4.2.2.2<(↑a1.length:Int)))else false)then v117 else false))else false)then
  chk (cX ((!(decide (s4.2.2.2=(↑a1.length:Int))))&&(decide (s4.2.2.1<(↑a0.length:Int)))) (0≤(wr .i64 (s4.2.2.1+1)))∧cX ((!(decide (s4.2.2.2=(↑a1.length:Int))))&&(decide (s4.2.2.1<(↑a0.length:Int)))) ((wr .i64 (s4.2.2.1+1))<(↑v1.length:Int))) <|
  chk (cX ((!(decide (s4.2.2.2=(↑a1.length:Int))))&&(decide (s4.2.2.1<(↑a0.length:Int)))) (0≤s4.2.2.2)∧cX ((!(decide (s4.2.2.2=(↑a1.length:Int))))&&(decide (s4.2.2.1<(↑a0.length:Int)))) (s4.2.2.2<(↑((get v1 ((wr .i64 (s4.2.2.1+1)).toNat)).length):Int))) <|
  chk (cX ((!(decide (s4.2.2.2=(↑a1.length:Int))))&&(decide (s4.2.2.1<(↑a0.length:Int)))) (0≤s4.2.2.1)∧cX ((!(decide (s4.2.2.2=(↑a1.length:Int))))&&(decide (s4.2.2.1<(↑a0.length:Int)))) (s4.2.2.1<(↑v1.length:Int))) <|
  chk (cX ((!(decide (s4.2.2.2=(↑a1.length:Int))))&&(decide (s4.2.2.1<(↑a0.length:Int)))) (0≤(wr .i64 (s4.2.2.2+1)))∧cX ((!(decide (s4.2.2.2=(↑a1.length:Int))))&&(decide (s4.2.2.1<(↑a0.length:Int)))) ((wr .i64 (s4.2.2.2+1))<(↑((get v1 s4.2.2.1.toNat).length):Int))) <|
  bif (bif (decide (s4.2.2.2=(↑a1.length:Int)))then true else(bif (decide (s4.2.2.1<(↑a0.length:Int)))then(decide ((get (get v1 s4.2.2.1.toNat) ((wr .i64 (s4.2.2.2+1)).toNat))≤(get (get v1 ((wr .i64 (s4.2.2.1+1)).toNat)) s4.2.2.2.toNat)))else false))then
   some (.nxt ((wr .i64 (s4.1+1)),s4.2.1,(wr .i64 (s4.2.2.1+1)),s4.2.2.2))
  else
   chk (0≤s4.2.2.2∧s4.2.2.2<(↑a1.length:Int)) <|
   cW (s4.2.1++[(get a1 s4.2.2.2.toNat)]) fun c133=>
   chk (c133.length*144≤top∧c133.length≤top) <|
   some (.nxt (s4.1,c133,s4.2.2.1,(wr .i64 (s4.2.2.2+1))))
 else
  some (.brk (s4.1,s4.2.1,s4.2.2.1,s4.2.2.2))
def eX(s0:(List w9)×Int×Int)(t3:Int×Int×Int)(t4:Int×(List x7)×Int×Int):Option (Ctl ((List w9)) ((List w9)×Int×Int) ((List w9))):=
 chk ((s0.1.length+1)*40≤top∧s0.1.length+1≤top) <|
 some (.nxt ((s0.1++[(w9.mk t3.1 t4.1 t4.2.1)]),t4.2.2.1,t4.2.2.2))
def eW(n:Nat)(a0:(List x7))(a1:(List x7))(v1:(List (List Int)))(s0:(List w9)×Int×Int)(t3:Int×Int×Int):Option (Ctl ((List w9)) ((List w9)×Int×Int) ((List w9))):=
 C2 (V2 (bL n a0 a1 v1) n (0,[],t3.2.1,t3.2.2)) (eX s0 t3)
def eV(n:Nat)(a0:(List x7))(a1:(List x7))(v1:(List (List Int)))(s0:(List w9)×Int×Int):Option (Ctl ((List w9)) ((List w9)×Int×Int) ((List w9))):=
 bif (bif (decide (s0.2.1<(↑a0.length:Int)))then true else(decide (s0.2.2<(↑a1.length:Int))))then
  C2 (V2 (bK n a0 a1) n (0,s0.2.1,s0.2.2)) (eW n a0 a1 v1 s0)
 else
  some (.brk s0.1)
def iX(t0:(List w9)):Option ((List w9)):=
 some t0
def fA(n:Nat)(a0:(List x7))(a1:(List x7)):Option ((List w9)):=
 (Co n a0 a1).bind fun v1=>
 C2 (V2 (eV n a0 a1 v1) n ([],0,0)) (iX)
def dc(n:Nat)(a0:x7):Option (x7):=
 (aC a0.graph).bind fun v1=>
 (aj n a0.meaning).bind fun v2=>
 some (x7.mk a0.word v1 a0.weight v2)
def iT(n:Nat)(a0:x9)(a1:x9)(k0:Nat)(s0:Unit):Option (Ctl (B4×x6) (Unit) (Unit)):=
 (N7 n (get [a0,a1] k0)).bind fun v4=>
 bif (!decide (v4.code=0))then
  some (.ret ((B4.mk [] [] [] []),v4))
 else
  some (.nxt ())
def lB(n:Nat)(v11:(List w7))(k3:Nat)(k5:Nat)(s5:(List w4)):Option (Ctl (Ctl (B4×x6) ((List A8)) ((List A8))) ((List w4)) ((List w4))):=
 (bN n (get ((get v11 k3).put) k5)).bind fun v35=>
 cW (s5++[v35]) fun c37=>
 chk (c37.length*152≤top∧c37.length≤top) <|
 some (.nxt c37)
def iR(s3:(List A8))(v11:(List w7))(k3:Nat)(t5:(List w4)):Option (Ctl (B4×x6) ((List A8)) ((List A8))):=
 chk ((s3.length+1)*40≤top∧s3.length+1≤top) <|
 some (.nxt (s3++[(A8.mk ((get v11 k3).keep) ((get v11 k3).drop) t5)]))
def fB(n:Nat)(v11:(List w7))(k3:Nat)(s3:(List A8)):Option (Ctl (B4×x6) ((List A8)) ((List A8))):=
 C2 (D1 (lB n v11 k3) (((get v11 k3).put).length) []) (iR s3 v11 k3)
def lC(n:Nat)(v45:(List w9))(k6:Nat)(k8:Nat)(s8:(List x7)):Option (Ctl (Ctl (B4×x6) ((List B9)) ((List B9))) ((List x7)) ((List x7))):=
 (dc n (get ((get v45 k6).put) k8)).bind fun v69=>
 cW (s8++[v69]) fun c71=>
 chk (c71.length*144≤top∧c71.length≤top) <|
 some (.nxt c71)
def iS(s6:(List B9))(v45:(List w9))(k6:Nat)(t8:(List x7)):Option (Ctl (B4×x6) ((List B9)) ((List B9))):=
 chk ((s6.length+1)*40≤top∧s6.length+1≤top) <|
 some (.nxt (s6++[(B9.mk ((get v45 k6).keep) ((get v45 k6).drop) t8)]))
def fC(n:Nat)(v45:(List w9))(k6:Nat)(s6:(List B9)):Option (Ctl (B4×x6) ((List B9)) ((List B9))):=
 C2 (D1 (lC n v45 k6) (((get v45 k6).put).length) []) (iS s6 v45 k6)
def lD(j1:(List w5))(j2:(List y5))(t3:(List A8))(t6:(List B9)):Option (B4×x6):=
 some ((B4.mk j1 j2 t3 t6),(x6.mk 0 0))
def iU(n:Nat)(a0:x9)(a1:x9)(j1:(List w5))(j2:(List y5))(t3:(List A8)):Option (B4×x6):=
 (fA n a0.y9 a1.y9).bind fun v45=>
 C2 (D1 (fC n v45) v45.length []) (lD j1 j2 t3)
def cK(n:Nat)(a0:x9)(a1:x9)(j1:(List w5))(j2:(List y5)):Option (B4×x6):=
 (dS n a0.rules a1.rules).bind fun v11=>
 C2 (D1 (fB n v11) v11.length []) (iU n a0 a1 j1 j2)
def cL(n:Nat)(a0:x9)(a1:x9)(j1:(List w5)):Option (B4×x6):=
 (dB a0.start a1.start).bind fun v8=>
 bif (!v8)then
  (aC a1.start).bind fun v9=>
  cK n a0 a1 j1 [v9]
 else
  cK n a0 a1 j1 []
def fD(n:Nat)(a0:x9)(a1:x9)(t0:Unit):Option (B4×x6):=
 (cI a0.hierarchy a1.hierarchy).bind fun v5=>
 bif (!v5)then
  (Y0 a1.hierarchy).bind fun v6=>
  cL n a0 a1 [v6]
 else
  cL n a0 a1 []
def iz(n:Nat)(a0:x9)(a1:x9):Option (B4×x6):=
 C2 (D1 (iT n a0 a1) 2 ()) (fD n a0 a1)
def iP(a0:Int)(a1:Int):Option (x6):=
 some (x6.mk a0 a1)
def ij(a0:Int)(a1:Int)(a2:Int):Option (Bool):=
 some (bif (bif (bif (bif (decide (a0<0))then true else(decide (a1<0)))then true else(decide (100<a0)))then true else(decide (100<a1)))then true else(decide (100<a2)))
def iq(a0:B4)(k0:Nat)(s0:Unit):Option (Ctl (x6) (Unit) (Unit)):=
 (ij ((get a0.rules k0).keep) ((get a0.rules k0).drop) (↑(((get a0.rules k0).put).length):Int)).bind fun v2=>
 bif v2 then
  (iP 3 (↑k0:Int)).bind fun v3=>
  some (.ret v3)
 else
  some (.nxt ())
def jH(a0:B4)(k1:Nat)(s1:Unit):Option (Ctl (x6) (Unit) (Unit)):=
 (ij ((get a0.y9 k1).keep) ((get a0.y9 k1).drop) (↑(((get a0.y9 k1).put).length):Int)).bind fun v4=>
 bif v4 then
  (iP 3 (wr .i64 ((↑a0.rules.length:Int)+(↑k1:Int)))).bind fun v5=>
  some (.ret v5)
 else
  some (.nxt ())
def pL(t1:Unit):Option (x6):=
 some (x6.mk 0 0)
def iu(a0:B4)(t0:Unit):Option (x6):=
 C2 (D1 (jH a0) a0.y9.length ()) (pL)
def iO(a0:B4):Option (x6):=
 bif (bif (bif (bif (decide (1<(↑a0.hierarchy.length:Int)))then true else(decide (1<(↑a0.start.length:Int))))then true else(decide (300<(↑a0.rules.length:Int))))then true else(decide (300<(↑a0.y9.length:Int))))then
  (iP 2 (-2)).bind fun v1=>
  some v1
 else
  C2 (D1 (iq a0) a0.rules.length ()) (iu a0)
def oh(a0:B4)(k0:Nat)(s0:Int):Option (Ctl (Int×x6) (Int) (Int)):=
 some (.nxt (wr .i64 (s0+(wr .i64 (((get a0.rules k0).drop)+(↑(((get a0.rules k0).put).length):Int))))))
def oo(a0:B4)(k1:Nat)(s1:Int):Option (Ctl (Int×x6) (Int) (Int)):=
 some (.nxt (wr .i64 (s1+(wr .i64 (((get a0.y9 k1).drop)+(↑(((get a0.y9 k1).put).length):Int))))))
def rB(t1:Int):Option (Int×x6):=
 some (t1,(x6.mk 0 0))
def om(a0:B4)(t0:Int):Option (Int×x6):=
 C2 (D1 (oo a0) a0.y9.length t0) (rB)
def og(a0:B4):Option (Int×x6):=
 (iO a0).bind fun v1=>
 bif (!decide (v1.code=0))then
  some (0,v1)
 else
  C2 (D1 (oh a0) a0.rules.length (wr .i64 ((↑a0.hierarchy.length:Int)+(↑a0.start.length:Int)))) (om a0)
def cx(a0:(List w4))(l0:(List w7))(k0:Nat)(s0:(List w4)×Int):Option (Ctl ((List w4)×Bool) ((List w4)×Int) ((List w4)×Int)):=
 bif (decide ((wr .i64 ((↑a0.length:Int)-s0.2))<(wr .i64 (((get l0 k0).keep)+((get l0 k0).drop)))))then
  some (.ret ([],false))
 else
  chk (0≤s0.2∧0≤(wr .i64 (s0.2+((get l0 k0).keep)))∧s0.2.toNat≤(wr .i64 (s0.2+((get l0 k0).keep))).toNat∧(wr .i64 (s0.2+((get l0 k0).keep))).toNat≤a0.length) <|
  cW (s0.1++((a0.drop s0.2.toNat).take ((wr .i64 (s0.2+((get l0 k0).keep))).toNat-s0.2.toNat))) fun c24=>
  chk (c24.length*152≤top∧c24.length≤top) <|
  cW (c24++(get l0 k0).put) fun c29=>
  chk (c29.length*152≤top∧c29.length≤top) <|
  some (.nxt (c29,(wr .i64 (s0.2+(wr .i64 (((get l0 k0).keep)+((get l0 k0).drop)))))))
def cA(a0:(List w4))(t0:(List w4)×Int):Option ((List w4)×Bool):=
 some (t0.1,(decide (t0.2=(↑a0.length:Int))))
def cJ(a0:(List w4))(l0:(List w7)):Option ((List w4)×Bool):=
 chk (l0.length≤9223372036854775807) <|
 C2 (D1 (cx a0 l0) l0.length ([],0)) (cA a0)
def dH(a0:(List x7))(l0:(List w9))(k0:Nat)(s0:(List x7)×Int):Option (Ctl ((List x7)×Bool) ((List x7)×Int) ((List x7)×Int)):=
 bif (decide ((wr .i64 ((↑a0.length:Int)-s0.2))<(wr .i64 (((get l0 k0).keep)+((get l0 k0).drop)))))then
  some (.ret ([],false))
 else
  chk (0≤s0.2∧0≤(wr .i64 (s0.2+((get l0 k0).keep)))∧s0.2.toNat≤(wr .i64 (s0.2+((get l0 k0).keep))).toNat∧(wr .i64 (s0.2+((get l0 k0).keep))).toNat≤a0.length) <|
  cW (s0.1++((a0.drop s0.2.toNat).take ((wr .i64 (s0.2+((get l0 k0).keep))).toNat-s0.2.toNat))) fun c24=>
  chk (c24.length*144≤top∧c24.length≤top) <|
  cW (c24++(get l0 k0).put) fun c29=>
  chk (c29.length*144≤top∧c29.length≤top) <|
  some (.nxt (c29,(wr .i64 (s0.2+(wr .i64 (((get l0 k0).keep)+((get l0 k0).drop)))))))
def dI(a0:(List x7))(t0:(List x7)×Int):Option ((List x7)×Bool):=
 some (t0.1,(decide (t0.2=(↑a0.length:Int))))
def dU(a0:(List x7))(l0:(List w9)):Option ((List x7)×Bool):=
 chk (l0.length≤9223372036854775807) <|
 C2 (D1 (dH a0 l0) l0.length ([],0)) (dI a0)
def pN(n:Nat)(a0:x9)(k0:Nat)(s0:(List w4)):Option (Ctl (x9) ((List w4)) ((List w4))):=
 (bN n (get a0.rules k0)).bind fun v10=>
 cW (s0++[v10]) fun c12=>
 chk (c12.length*152≤top∧c12.length≤top) <|
 some (.nxt c12)
def pO(n:Nat)(a0:x9)(k1:Nat)(s1:(List x7)):Option (Ctl (x9) ((List x7)) ((List x7))):=
 (dc n (get a0.y9 k1)).bind fun v24=>
 cW (s1++[v24]) fun c26=>
 chk (c26.length*144≤top∧c26.length≤top) <|
 some (.nxt c26)
def pP(v1:w5)(t0:(List w4))(v2:y5)(t1:(List x7)):Option (x9):=
 some (x9.mk v1 t0 t1 v2)
def mz(n:Nat)(a0:x9)(v1:w5)(v2:y5)(t0:(List w4)):Option (x9):=
 C2 (D1 (pO n a0) a0.y9.length []) (pP v1 t0 v2)
def pJ(n:Nat)(a0:x9):Option (x9):=
 (Y0 a0.hierarchy).bind fun v1=>
 (aC a0.start).bind fun v2=>
 C2 (D1 (pN n a0) a0.rules.length []) (mz n a0 v1 v2)
def pQ(a1:B4)(k0:Nat)(s0:(List w7)):Option (Ctl (x9×x6) ((List w7)) ((List w7))):=
 cW (s0++[(w7.mk ((get a1.rules k0).keep) ((get a1.rules k0).drop) ((get a1.rules k0).put))]) fun c10=>
 chk (c10.length*40≤top∧c10.length≤top) <|
 some (.nxt c10)
def pR(a1:B4)(k1:Nat)(s1:(List w9)):Option (Ctl (x9×x6) ((List w9)) ((List w9))):=
 cW (s1++[(w9.mk ((get a1.y9 k1).keep) ((get a1.y9 k1).drop) ((get a1.y9 k1).put))]) fun c22=>
 chk (c22.length*40≤top∧c22.length≤top) <|
 some (.nxt c22)
def pS(a1:B4)(k2:Nat)(s2:(List w8)×(List y3)):Option (Ctl (x9×x6) ((List w8)×(List y3)) ((List w8)×(List y3))):=
 some (.nxt ((get a1.hierarchy k2).types,(get a1.hierarchy k2).B1))
def pT(a1:B4)(k3:Nat)(s3:(List x5)):Option (Ctl (x9×x6) ((List x5)) ((List x5))):=
 some (.nxt ((get a1.start k3).nodes))
def mE(n:Nat)(a0:x9)(t0:(List w7))(t1:(List w9))(t2:(List w8)×(List y3))(t3:(List x5)):Option (x9×x6):=
 (cJ a0.rules t0).bind fun v27=>
 (dU a0.y9 t1).bind fun v28=>
 bif (bif (!v27.2)then true else(!v28.2))then
  (iP 9 (-2)).bind fun v29=>
  some ((x9.mk (w5.mk [] []) [] [] (y5.mk [])),v29)
 else
  (N7 n (x9.mk (w5.mk t2.1 t2.2) v27.1 v28.1 (y5.mk t3))).bind fun v30=>
  bif (!decide (v30.code=0))then
   (iP v30.code (-3)).bind fun v31=>
   some ((x9.mk (w5.mk [] []) [] [] (y5.mk [])),v31)
  else
   (pJ n (x9.mk (w5.mk t2.1 t2.2) v27.1 v28.1 (y5.mk t3))).bind fun v32=>
   some (v32,(x6.mk 0 0))
def mC(n:Nat)(a1:B4)(a0:x9)(t0:(List w7))(t1:(List w9))(t2:(List w8)×(List y3)):Option (x9×x6):=
 C2 (D1 (pT a1) a1.start.length a0.start.nodes) (mE n a0 t0 t1 t2)
def mB(n:Nat)(a1:B4)(a0:x9)(t0:(List w7))(t1:(List w9)):Option (x9×x6):=
 C2 (D1 (pS a1) a1.hierarchy.length (a0.hierarchy.types,a0.hierarchy.B1)) (mC n a1 a0 t0 t1)
def mA(n:Nat)(a1:B4)(a0:x9)(t0:(List w7)):Option (x9×x6):=
 C2 (D1 (pR a1) a1.y9.length []) (mB n a1 a0 t0)
def ly(n:Nat)(a0:x9)(a1:B4):Option (x9×x6):=
 (N7 n a0).bind fun v1=>
 bif (!decide (v1.code=0))then
  some ((x9.mk (w5.mk [] []) [] [] (y5.mk [])),v1)
 else
  (iO a1).bind fun v2=>
  bif (!decide (v2.code=0))then
   some ((x9.mk (w5.mk [] []) [] [] (y5.mk [])),v2)
  else
   C2 (D1 (pQ a1) a1.rules.length []) (mA n a1 a0)
def R6(a1:(List w8))(a0:(List w8))(k0:Nat)(s0:Unit):Option (Ctl (Bool) (Unit) (Unit)):=
 chk ((↑k0:Int)<(↑a1.length:Int)) <|
 (gd (!(!decide (((get a0 k0).name)=((get a1 k0).name)))) (aF ((get a0 k0).parents) ((get a1 k0).parents)) default).bind fun v4=>
 bif (bif (!decide (((get a0 k0).name)=((get a1 k0).name)))then true else(!v4))then
  some (.ret false)
 else
  some (.nxt ())
def cQ(t0:Unit):Option (Bool):=
 some true
def X0(a0:(List w8))(a1:(List w8)):Option (Bool):=
 bif (!decide ((↑a0.length:Int)=(↑a1.length:Int)))then
  some false
 else
  C2 (D1 (R6 a1 a0) a0.length ()) (cQ)
def J9(a0:w5)(a1:w5):Option (Bool):=
 (X0 a0.types a1.types).bind fun v1=>
 (gd v1 (L8 a0.B1 a1.B1) default).bind fun v2=>
 some (bif v1 then v2 else false)
def R9(n:Nat)(a1:(List x7))(a0:(List x7))(k0:Nat)(s0:Unit):Option (Ctl (Bool) (Unit) (Unit)):=
 chk ((↑k0:Int)<(↑a1.length:Int)) <|
 (F5 n (get a0 k0) (get a1 k0)).bind fun v2=>
 bif (!v2)then
  some (.ret false)
 else
  some (.nxt ())
def cR(t0:Unit):Option (Bool):=
 some true
def X1(n:Nat)(a0:(List x7))(a1:(List x7)):Option (Bool):=
 bif (!decide ((↑a0.length:Int)=(↑a1.length:Int)))then
  some false
 else
  C2 (D1 (R9 n a1 a0) a0.length ()) (cR)
def K0(n:Nat)(a0:x9)(a1:x9):Option (Bool):=
 (J9 a0.hierarchy a1.hierarchy).bind fun v1=>
 (gd v1 (E6 n a0.rules a1.rules) default).bind fun v2=>
 (gd (bif v1 then v2 else false) (X1 n a0.y9 a1.y9) default).bind fun v3=>
 (gd (bif (bif v1 then v2 else false)then v3 else false) (I0 a0.start a1.start) default).bind fun v4=>
 some (bif (bif (bif v1 then v2 else false)then v3 else false)then v4 else false)
def S0(n:Nat):Option (Bool):=
 (bO n).bind fun v1=>
 (bO n).bind fun v2=>
 chk (0≤1∧1≤v2.y9.length) <|
 (iz n v1 (x9.mk v2.hierarchy v2.rules (v2.y9.drop 1) v2.start)).bind fun v5=>
 (og v5.1).bind fun v6=>
 (ly n v1 v5.1).bind fun v7=>
 (gd (bif (bif (bif (decide (v5.2.code=0))then(decide (v6.2.code=0))else false)then(decide (v6.1=1))else false)then(decide (v7.2.code=0))else false) (K0 n v7.1 (x9.mk v2.hierarchy v2.rules (v2.y9.drop 1) v2.start)) default).bind fun v8=>
 some (bif (bif (bif (bif (decide (v5.2.code=0))then(decide (v6.2.code=0))else false)then(decide (v6.1=1))else false)then(decide (v7.2.code=0))else false)then v8 else false)
def aU(a0:Bs)(k0:Nat)(s0:Unit):Option (Ctl (Bool) (Unit) (Unit)):=
 bif (bif (!(bif (decide (97≤(get (bytesOf a0) k0)))then(decide ((get (bytesOf a0) k0)≤122))else false))then(bif (!(bif (bif (bif (decide (48≤(get (bytesOf a0) k0)))then(decide ((get (bytesOf a0) k0)≤57))else false)then true else(decide ((get (bytesOf a0) k0)=95)))then true else(decide ((get (bytesOf a0) k0)=45))))then true else(decide ((↑k0:Int)=0)))else false)then
  some (.ret false)
 else
  some (.nxt ())
def aV(t0:Unit):Option (Bool):=
 some true
def R0(a0:Bs):Option (Bool):=
 bif (bif (decide ((↑a0.length:Int)<1))then true else(decide (30<(↑a0.length:Int))))then
  some false
 else
  chk (a0.length≤top) <|
  C2 (D1 (aU a0) ((bytesOf a0).length) ()) (aV)
def M5(a0:(List w8))(k0:Nat)(k3:Nat)(s3:Unit):Option (Ctl (Ctl (x6) (Unit) (Unit)) (Unit) (Unit)):=
 bif (decide (((get (a0.take k0) k3).name)=((get a0 k0).name)))then
  some (.ret (.ret (x6.mk 7 (↑k0:Int))))
 else
  some (.nxt ())
def S4(a0:(List w8))(k0:Nat)(k4:Nat)(s4:Unit):Option (Ctl (Ctl (x6) (Unit) (Unit)) (Unit) (Unit)):=
 bif (bif (decide ((get ((get a0 k0).parents) k4)<0))then true else(decide ((↑k0:Int)≤(get ((get a0 k0).parents) k4))))then
  some (.ret (.ret (x6.mk 3 (↑k0:Int))))
 else
  chk (cX (decide (0<(↑k4:Int))) (0≤(wr .i64 ((↑k4:Int)-1)))∧cX (decide (0<(↑k4:Int))) ((wr .i64 ((↑k4:Int)-1))<(↑(((get a0 k0).parents).length):Int))) <|
  bif (bif (decide (0<(↑k4:Int)))then(decide ((get ((get a0 k0).parents) k4)≤(get ((get a0 k0).parents) ((wr .i64 ((↑k4:Int)-1)).toNat))))else false)then
   some (.ret (.ret (x6.mk 13 (↑k0:Int))))
  else
   some (.nxt ())
def S5(t4:Unit):Option (Ctl (x6) (Unit) (Unit)):=
 some (.nxt ())
def S2(k0:Nat)(a0:(List w8))(t3:Unit):Option (Ctl (x6) (Unit) (Unit)):=
 bif (!decide ((decide ((↑k0:Int)=0))=(decide ((↑(((get a0 k0).parents).length):Int)=0))))then
  some (.ret (x6.mk 5 (↑k0:Int)))
 else
  C2 (D1 (S4 a0 k0) (((get a0 k0).parents).length) ()) (S5)
def S1(a0:(List w8))(k0:Nat)(s0:Unit):Option (Ctl (x6) (Unit) (Unit)):=
 (R0 ((get a0 k0).name)).bind fun v10=>
 bif (!v10)then
  some (.ret (x6.mk 10 (↑k0:Int)))
 else
  chk (0≤(↑k0:Int)∧k0≤a0.length) <|
  C2 (D1 (M5 a0 k0) ((a0.take k0).length) ()) (S2 k0 a0)
def av(t0:Unit):Option (x6):=
 some (x6.mk 0 0)
def I3(a0:(List w8)):Option (x6):=
 bif (bif (decide ((↑a0.length:Int)=0))then true else(decide (60<(↑a0.length:Int))))then
  some (x6.mk 2 (-1))
 else
  C2 (D1 (S1 a0) a0.length ()) (av)
def sF(n:Nat)(a0:List w8):Option (List (List Bool)):=
 chk (a0.length*24≤top) <|
 chk (((List.range a0.length).all fun i=>(List.range a0.length).all fun j=>(E1 n a0 (i:Int) (j:Int)).isSome)=true) <|
 some (tf a0.length a0.length fun(i j:Nat)=>(E1 n a0 (i:Int) (j:Int)).getD false)
def Z7(v1:(List (List Bool)))(k4:Nat)(k0:Nat)(k5:Nat)(s5:Int):Option (Ctl (Ctl (Ctl (Int) (Unit) (Unit)) (Unit) (Unit)) (Int) (Int)):=
 chk ((↑k5:Int)<(↑v1.length:Int)) <|
 chk ((↑k4:Int)<(↑((get v1 k5).length):Int)) <|
 chk (cX (get (get v1 k5) k4) (k0<((get v1 k5).length))) <|
 bif (bif (get (get v1 k5) k4)then(get (get v1 k5) k0)else false)then
  bif (decide (s5<0))then
   some (.nxt (↑k5:Int))
  else
   chk (0≤s5∧s5<(↑((get v1 k5).length):Int)) <|
   bif (!(get (get v1 k5) s5.toNat))then
    some (.ret (.ret (.ret (↑k0:Int))))
   else
    some (.nxt s5)
 else
  some (.nxt s5)
def Z8(t5:Int):Option (Ctl (Ctl (Int) (Unit) (Unit)) (Unit) (Unit)):=
 some (.nxt ())
def Z6(a0:(List w8))(v1:(List (List Bool)))(k0:Nat)(k4:Nat)(s4:Unit):Option (Ctl (Ctl (Int) (Unit) (Unit)) (Unit) (Unit)):=
 chk (a0.length≤9223372036854775807) <|
 C2 (D1 (Z7 v1 k4 k0) a0.length (-1)) (Z8)
def Z9(t4:Unit):Option (Ctl (Int) (Unit) (Unit)):=
 some (.nxt ())
def Z5(a0:(List w8))(v1:(List (List Bool)))(k0:Nat)(s0:Unit):Option (Ctl (Int) (Unit) (Unit)):=
 chk (k0≤9223372036854775807) <|
 C2 (D1 (Z6 a0 v1 k0) k0 ()) (Z9)
def ah(t0:Unit):Option (Int):=
 some (-1)
def Z0(n:Nat)(a0:(List w8)):Option (Int):=
 (sF n a0).bind fun v1=>
 chk (a0.length≤9223372036854775807) <|
 C2 (D1 (Z5 a0 v1) a0.length ()) (ah)
def I5(a0:w5)(k0:Nat)(k2:Nat)(s2:Unit):Option (Ctl (Ctl (x6) (Unit) (Unit)) (Unit) (Unit)):=
 bif (decide (((get (a0.B1.take k0) k2).name)=((get a0.B1 k0).name)))then
  some (.ret (.ret (x6.mk 7 (↑k0:Int))))
 else
  some (.nxt ())
def N5(a0:w5)(k0:Nat)(t2:Unit):Option (Ctl (x6) (Unit) (Unit)):=
 bif (bif (bif (bif (decide (((get a0.B1 k0).of_)<0))then true else(decide ((↑a0.types.length:Int)≤((get a0.B1 k0).of_))))then true else(decide (((get a0.B1 k0).value)<0)))then true else(decide ((↑a0.types.length:Int)≤((get a0.B1 k0).value))))then
  some (.ret (x6.mk 3 (↑k0:Int)))
 else
  some (.nxt ())
def I4(a0:w5)(k0:Nat)(s0:Unit):Option (Ctl (x6) (Unit) (Unit)):=
 (R0 ((get a0.B1 k0).name)).bind fun v6=>
 bif (!v6)then
  some (.ret (x6.mk 10 (↑k0:Int)))
 else
  chk (0≤(↑k0:Int)∧k0≤a0.B1.length) <|
  C2 (D1 (I5 a0 k0) ((a0.B1.take k0).length) ()) (N5 a0 k0)
def N4(t0:Unit):Option (x6):=
 some (x6.mk 0 0)
def L2(n:Nat)(a0:w5):Option (x6):=
 bif (decide (40<(↑a0.B1.length:Int)))then
  some (x6.mk 2 (-1))
 else
  (I3 a0.types).bind fun v1=>
  bif (!decide (v1.code=0))then
   some v1
  else
   (Z0 n a0.types).bind fun v2=>
   bif (decide (0≤v2))then
    some (x6.mk 16 v2)
   else
    C2 (D1 (I4 a0) a0.B1.length ()) (N4)
def S7(a1:y5)(k0:Nat)(a0:w5)(k2:Nat)(s2:Unit):Option (Ctl (Ctl (x6) (Unit) (Unit)) (Unit) (Unit)):=
 bif (bif (bif (bif (decide (((get ((get a1.nodes k0).links) k2).hJ)<0))then true else(decide ((↑a0.B1.length:Int)≤((get ((get a1.nodes k0).links) k2).hJ))))then true else(decide (((get ((get a1.nodes k0).links) k2).to_)<0)))then true else(decide ((↑a1.nodes.length:Int)≤((get ((get a1.nodes k0).links) k2).to_))))then
  some (.ret (.ret (x6.mk 3 (↑k0:Int))))
 else
  chk (cX (decide (0<(↑k2:Int))) (0≤(wr .i64 ((↑k2:Int)-1)))∧cX (decide (0<(↑k2:Int))) ((wr .i64 ((↑k2:Int)-1))<(↑(((get a1.nodes k0).links).length):Int))) <|
  bif (bif (decide (0<(↑k2:Int)))then(decide (((get ((get a1.nodes k0).links) k2).hJ)≤((get ((get a1.nodes k0).links) ((wr .i64 ((↑k2:Int)-1)).toNat)).hJ)))else false)then
   some (.ret (.ret (x6.mk 13 (↑k0:Int))))
  else
   some (.nxt ())
def S8(t2:Unit):Option (Ctl (x6) (Unit) (Unit)):=
 some (.nxt ())
def S6(a1:y5)(a0:w5)(k0:Nat)(s0:Unit):Option (Ctl (x6) (Unit) (Unit)):=
 bif (bif (decide (((get a1.nodes k0).type)<0))then true else(decide ((↑a0.types.length:Int)≤((get a1.nodes k0).type))))then
  some (.ret (x6.mk 3 (↑k0:Int)))
 else
  C2 (D1 (S7 a1 k0 a0) (((get a1.nodes k0).links).length) ()) (S8)
def ay(t0:Unit):Option (x6):=
 some (x6.mk 0 0)
def P5(a0:w5)(a1:y5):Option (x6):=
 bif (bif (decide ((↑a1.nodes.length:Int)=0))then true else(decide (60<(↑a1.nodes.length:Int))))then
  some (x6.mk 2 (-2))
 else
  C2 (D1 (S6 a1 a0) a1.nodes.length ()) (ay)
def T7(k4:Nat)(a0:y5)(k6:Nat)(s6:(List Bool)):Option (Ctl (Ctl (Ctl (Int) ((List Bool)) ((List Bool))) ((List Bool)) ((List Bool))) ((List Bool)) ((List Bool))):=
 chk ((↑k4:Int)<(↑s6.length:Int)) <|
 bif (get s6 k4)then
  chk (0≤(get ((get a0.nodes k4).links) k6).to_∧(get ((get a0.nodes k4).links) k6).to_<(↑s6.length:Int)) <|
  cW (s6.set (((get ((get a0.nodes k4).links) k6).to_).toNat) true) fun c88=>
  some (.nxt c88)
 else
  some (.nxt s6)
def T8(t6:(List Bool)):Option (Ctl (Ctl (Int) ((List Bool)) ((List Bool))) ((List Bool)) ((List Bool))):=
 some (.nxt t6)
def T6(a0:y5)(k4:Nat)(s4:(List Bool)):Option (Ctl (Ctl (Int) ((List Bool)) ((List Bool))) ((List Bool)) ((List Bool))):=
 C2 (D1 (T7 k4 a0) (((get a0.nodes k4).links).length) s4) (T8)
def T9(t4:(List Bool)):Option (Ctl (Int) ((List Bool)) ((List Bool))):=
 some (.nxt t4)
def T5(a0:y5)(k0:Nat)(s0:(List Bool)):Option (Ctl (Int) ((List Bool)) ((List Bool))):=
 C2 (D1 (T6 a0) a0.nodes.length s0) (T9)
def U0(t0:(List Bool)):Option (Int):=
 (L1 t0 false).bind fun v91=>
 some v91
def M9(a0:y5):Option (Int):=
 chk (a0.nodes.length*1≤top∧a0.nodes.length≤top) <|
 chk (0<(↑a0.nodes.length:Int)) <|
 cW ((List.replicate a0.nodes.length (default:Bool)).set 0 true) fun c7=>
 chk (a0.nodes.length≤9223372036854775807) <|
 C2 (D1 (T5 a0) a0.nodes.length c7) (U0)
def Q5(n:Nat)(a1:y5)(k0:Nat)(a0:w5)(k2:Nat)(s2:Unit):Option (Ctl (Ctl (x6) (Unit) (Unit)) (Unit) (Unit)):=
 chk (0≤(get ((get a1.nodes k0).links) k2).hJ∧(get ((get a1.nodes k0).links) k2).hJ<(↑a0.B1.length:Int)) <|
 (E1 n a0.types ((get a1.nodes k0).type) ((get a0.B1 (((get ((get a1.nodes k0).links) k2).hJ).toNat)).of_)).bind fun v25=>
 chk (cX (!(!v25)) (0≤(get ((get a1.nodes k0).links) k2).to_)∧cX (!(!v25)) ((get ((get a1.nodes k0).links) k2).to_<(↑a1.nodes.length:Int))) <|
 (gd (!(!v25)) (E1 n a0.types ((get a1.nodes (((get ((get a1.nodes k0).links) k2).to_).toNat)).type) ((get a0.B1 (((get ((get a1.nodes k0).links) k2).hJ).toNat)).value)) default).bind fun v29=>
 bif (bif (!v25)then true else(!v29))then
  some (.ret (.ret (x6.mk 12 (↑k0:Int))))
 else
  some (.nxt ())
def Q6(t2:Unit):Option (Ctl (x6) (Unit) (Unit)):=
 some (.nxt ())
def Q0(n:Nat)(a1:y5)(a0:w5)(k0:Nat)(s0:Unit):Option (Ctl (x6) (Unit) (Unit)):=
 C2 (D1 (Q5 n a1 k0 a0) (((get a1.nodes k0).links).length) ()) (Q6)
def Q7(a1:y5)(t0:Unit):Option (x6):=
 (M9 a1).bind fun v30=>
 bif (decide (0≤v30))then
  some (x6.mk 5 v30)
 else
  some (x6.mk 0 0)
def G8(n:Nat)(a0:w5)(a1:y5):Option (x6):=
 (P5 a0 a1).bind fun v1=>
 bif (!decide (v1.code=0))then
  some v1
 else
  C2 (D1 (Q0 n a1 a0) a1.nodes.length ()) (Q7 a1)
def X6(a0:y5)(a1:Int)(a2:Int)(k0:Nat)(s0:Unit):Option (Ctl (Int) (Unit) (Unit)):=
 bif (decide (((get ((get a0.nodes a1.toNat).links) k0).hJ)=a2))then
  some (.ret ((get ((get a0.nodes a1.toNat).links) k0).to_))
 else
  some (.nxt ())
def X7(t0:Unit):Option (Int):=
 some (-1)
def W6(a0:y5)(a1:Int)(a2:Int):Option (Int):=
 chk (0≤a1∧a1<(↑a0.nodes.length:Int)) <|
 C2 (D1 (X6 a0 a1 a2) (((get a0.nodes a1.toNat).links).length) ()) (X7)
def W7(a0:u0):Option (Bool):=
 some (bif (decide (a0.base=[]))then(decide ((↑a0.args.length:Int)=0))else false)
def aX(a0:Bs)(s0:Int):Option (Ctl (Bool) (Int) (Unit)):=
 bif (decide (s0<(↑a0.length:Int)))then
  chk (0≤s0∧s0<(↑a0.length:Int)) <|
  bif (bif (!(bif (decide (97≤(B2 a0 s0)))then(decide ((B2 a0 s0)≤122))else false))then(bif (decide (s0=0))then true else(!(bif (bif (bif (decide (48≤(B2 a0 s0)))then(decide ((B2 a0 s0)≤57))else false)then true else(decide ((B2 a0 s0)=95)))then true else(decide ((B2 a0 s0)=45)))))else false)then
   some (.ret false)
  else
   some (.nxt (wr .i64 (s0+1)))
 else
  some (.brk ())
def eB(t0:Unit):Option (Bool):=
 some true
def aJ(n:Nat)(a0:Bs):Option (Bool):=
 bif (bif (decide ((↑a0.length:Int)<1))then true else(decide (30<(↑a0.length:Int))))then
  some false
 else
  C2 (V2 (aX a0) n 0) (eB)
def E0(s0:(List y7)×Int×Nat):Option (Ctl (Int) ((List y7)×Int×Nat) (Unit)):=
 bif (decide (0<(↑s0.2.2:Int)))then
  chk (s0.2.2≤s0.1.length) <|
  chk (0≤(wr .i64 ((↑s0.2.2:Int)-1))∧(wr .i64 ((↑s0.2.2:Int)-1))<(↑s0.2.2:Int)) <|
  chk ((wr .i64 ((↑s0.2.2:Int)-1)).toNat≤s0.2.2) <|
  bif (bif (decide (200<(wr .i64 (s0.2.1+1))))then true else(decide (40<((get s0.1 ((wr .i64 ((↑s0.2.2:Int)-1)).toNat)).depth))))then
   some (.ret 1)
  else
   bif (decide (((get s0.1 ((wr .i64 ((↑s0.2.2:Int)-1)).toNat)).s.base)=[]))then
    bif (!decide ((↑(((get s0.1 ((wr .i64 ((↑s0.2.2:Int)-1)).toNat)).s.args).length):Int)=2))then
     some (.ret 5)
    else
     chk (1<(↑(((get s0.1 ((wr .i64 ((↑s0.2.2:Int)-1)).toNat)).s.args).length):Int)) <|
     chk (0<(↑(((get s0.1 ((wr .i64 ((↑s0.2.2:Int)-1)).toNat)).s.args).length):Int)) <|
     chk ((wr .i64 ((↑s0.2.2:Int)-1)).toNat≤s0.1.length) <|
     cW ((s0.1.take ((wr .i64 ((↑s0.2.2:Int)-1)).toNat))++[(y7.mk (get ((get s0.1 ((wr .i64 ((↑s0.2.2:Int)-1)).toNat)).s.args) 1) (wr .i64 (((get s0.1 ((wr .i64 ((↑s0.2.2:Int)-1)).toNat)).depth)+1))),(y7.mk (get ((get s0.1 ((wr .i64 ((↑s0.2.2:Int)-1)).toNat)).s.args) 0) (wr .i64 (((get s0.1 ((wr .i64 ((↑s0.2.2:Int)-1)).toNat)).depth)+1)))]) fun c25=>
     chk (c25.length*48≤top∧c25.length≤top) <|
     some (.nxt (c25,(wr .i64 (s0.2.1+1)),c25.length))
   else
    bif (bif (bif (!decide (((get s0.1 ((wr .i64 ((↑s0.2.2:Int)-1)).toNat)).s.base)=[101]))then(!decide (((get s0.1 ((wr .i64 ((↑s0.2.2:Int)-1)).toNat)).s.base)=[116]))else false)then true else(!decide ((↑(((get s0.1 ((wr .i64 ((↑s0.2.2:Int)-1)).toNat)).s.args).length):Int)=0)))then
     some (.ret 5)
    else
     some (.nxt (s0.1,(wr .i64 (s0.2.1+1)),(wr .i64 ((↑s0.2.2:Int)-1)).toNat))
 else
  some (.brk ())
def Q8(t0:Unit):Option (Int):=
 some 0
def O5(n:Nat)(a0:u0):Option (Int):=
 C2 (V2 (E0) n ([(y7.mk a0 1)],0,1)) (Q8)
def J6(a0:(List C1))(s0:Int×Int):Option (Ctl (Int) (Int×Int) (Unit)):=
 bif (decide (0≤s0.2))then
  chk (0≤s0.2∧s0.2<(↑a0.length:Int)) <|
  bif (decide (((get a0 s0.2.toNat).kind)=3))then
   bif (decide (s0.1=0))then
    some (.ret s0.2)
   else
    some (.nxt ((wr .i64 (s0.1-1)),(get a0 s0.2.toNat).up))
  else
   some (.nxt (s0.1,(get a0 s0.2.toNat).up))
 else
  some (.brk ())
def cS(t0:Unit):Option (Int):=
 some (-1)
def R2(n:Nat)(a0:(List C1))(a1:Int):Option (Int):=
 chk (0≤a1∧a1<(↑a0.length:Int)) <|
 C2 (V2 (J6 a0) n ((get a0 a1.toNat).index,(get a0 a1.toNat).up)) (cS)
def fW(a0:u0)(a1:u0):Option (u0):=
 some (u0.mk [] [a0,a1])
def E8:Nat→(u0)→Option (Bs)
 |0,_=>none
 |n+1,a0=>
  bif (!decide (a0.base=[]))then
   some a0.base
  else
   chk (0<(↑a0.args.length:Int)) <|
   (E8 n (get a0.args 0)).bind fun v2=>
   chk (kN [40] v2) <|
   chk (kN (yM [40] v2) [32]) <|
   chk (1<(↑a0.args.length:Int)) <|
   (E8 n (get a0.args 1)).bind fun v6=>
   chk (kN (yM (yM [40] v2) [32]) v6) <|
   chk (kN (yM (yM (yM [40] v2) [32]) v6) [41]) <|
   some (yM (yM (yM (yM [40] v2) [32]) v6) [41])
def U3(n:Nat)(a0:u0)(a1:u0):Option (Bool):=
 (E8 n a0).bind fun v1=>
 (E8 n a1).bind fun v2=>
 some (decide (v1=v2))
def N0(n:Nat)(v1:(List C1))(s0:(List u0)×Int):Option (Ctl (u0×Bool) ((List u0)×Int) ((List u0))):=
 bif (decide (0≤s0.2))then
  chk (0≤s0.2∧s0.2<(↑v1.length:Int)) <|
  bif (decide (((get v1 s0.2.toNat).kind)=1))then
   chk (s0.2<(↑s0.1.length:Int)) <|
   cW (s0.1.set s0.2.toNat ((get v1 s0.2.toNat).typ)) fun c54=>
   some (.nxt (c54,(wr .i64 (s0.2-1))))
  else
   bif (decide (((get v1 s0.2.toNat).kind)=2))then
    (R2 n v1 s0.2).bind fun v57=>
    chk (0≤v57∧v57<(↑v1.length:Int)) <|
    chk (s0.2<(↑s0.1.length:Int)) <|
    cW (s0.1.set s0.2.toNat ((get v1 v57.toNat).typ)) fun c63=>
    some (.nxt (c63,(wr .i64 (s0.2-1))))
   else
    bif (decide (((get v1 s0.2.toNat).kind)=3))then
     chk (0<(↑(((get v1 s0.2.toNat).kids).length):Int)) <|
     chk (0≤(get ((get v1 s0.2.toNat).kids) 0)∧(get ((get v1 s0.2.toNat).kids) 0)<(↑s0.1.length:Int)) <|
     (fW ((get v1 s0.2.toNat).typ) (get s0.1 ((get ((get v1 s0.2.toNat).kids) 0).toNat))).bind fun v71=>
     chk (s0.2<(↑s0.1.length:Int)) <|
     cW (s0.1.set s0.2.toNat v71) fun c75=>
     some (.nxt (c75,(wr .i64 (s0.2-1))))
    else
     bif (decide (((get v1 s0.2.toNat).kind)=4))then
      chk (0<(↑(((get v1 s0.2.toNat).kids).length):Int)) <|
      chk (0≤(get ((get v1 s0.2.toNat).kids) 0)∧(get ((get v1 s0.2.toNat).kids) 0)<(↑s0.1.length:Int)) <|
      chk (1<(↑(((get v1 s0.2.toNat).kids).length):Int)) <|
      chk (0≤(get ((get v1 s0.2.toNat).kids) 1)∧(get ((get v1 s0.2.toNat).kids) 1)<(↑s0.1.length:Int)) <|
      chk (cX (!(bif (!decide (((get s0.1 ((get ((get v1 s0.2.toNat).kids) 0).toNat)).base)=[]))then true else(!decide ((↑(((get s0.1 ((get ((get v1 s0.2.toNat).kids) 0).toNat)).args).length):Int)=2)))) (0<(↑(((get s0.1 ((get ((get v1 s0.2.toNat).kids) 0).toNat)).args).length):Int))) <|
      (gd (!(bif (!decide (((get s0.1 ((get ((get v1 s0.2.toNat).kids) 0).toNat)).base)=[]))then true else(!decide ((↑(((get s0.1 ((get ((get v1 s0.2.toNat).kids) 0).toNat)).args).length):Int)=2)))) (U3 n (get ((get s0.1 ((get ((get v1 s0.2.toNat).kids) 0).toNat)).args) 0) (get s0.1 ((get ((get v1 s0.2.toNat).kids) 1).toNat))) default).bind fun v90=>
      bif (bif (bif (!decide (((get s0.1 ((get ((get v1 s0.2.toNat).kids) 0).toNat)).base)=[]))then true else(!decide ((↑(((get s0.1 ((get ((get v1 s0.2.toNat).kids) 0).toNat)).args).length):Int)=2)))then true else(!v90))then
       some (.ret ((u0.mk [] []),false))
      else
       chk (1<(↑(((get s0.1 ((get ((get v1 s0.2.toNat).kids) 0).toNat)).args).length):Int)) <|
       chk (s0.2<(↑s0.1.length:Int)) <|
       cW (s0.1.set s0.2.toNat (get ((get s0.1 ((get ((get v1 s0.2.toNat).kids) 0).toNat)).args) 1)) fun c95=>
       some (.nxt (c95,(wr .i64 (s0.2-1))))
     else
      some (.nxt (s0.1,(wr .i64 (s0.2-1))))
 else
  some (.brk s0.1)
def X8(t0:(List u0)):Option (u0×Bool):=
 chk (0<(↑t0.length:Int)) <|
 some ((get t0 0),true)
def W8(n:Nat)(a0:w6):Option (u0×Bool):=
 (IX n a0).bind fun v1=>
 chk (v1.length*40≤top∧v1.length≤top) <|
 C2 (V2 (N0 n v1) n ((List.replicate v1.length (default:u0)),(wr .i64 ((↑v1.length:Int)-1)))) (X8)
def U1(s0:(List y4)×Int×Nat)(j5:Int)(s6:(List y4)×Int×Nat):Option (Ctl (Ctl (x6) ((List y4)×Int×Nat) (Unit)) ((List y4)×Int×Nat) ((List y4)×Nat)):=
 bif (decide (0≤s6.2.1))then
  chk (0≤s6.2.1∧s6.2.1<(↑(((get s0.1 ((wr .i64 ((↑s0.2.2:Int)-1)).toNat)).t.args).length):Int)) <|
  chk (s6.2.2≤s6.1.length) <|
  cW ((s6.1.take s6.2.2)++[(y4.mk (get ((get s0.1 ((wr .i64 ((↑s0.2.2:Int)-1)).toNat)).t.args) s6.2.1.toNat) (wr .i64 (((get s0.1 ((wr .i64 ((↑s0.2.2:Int)-1)).toNat)).depth)+1)) j5)]) fun c57=>
  chk (c57.length*112≤top∧c57.length≤top) <|
  some (.nxt (c57,(wr .i64 (s6.2.1-1)),c57.length))
 else
  some (.brk (s6.1,s6.2.2))
def U2(s0:(List y4)×Int×Nat)(t6:(List y4)×Nat):Option (Ctl (x6) ((List y4)×Int×Nat) (Unit)):=
 some (.nxt (t6.1,(wr .i64 (s0.2.1+1)),t6.2))
def J5(n:Nat)(s0:(List y4)×Int×Nat)(j5:Int):Option (Ctl (x6) ((List y4)×Int×Nat) (Unit)):=
 C2 (V2 (U1 s0 j5) n (s0.1,(wr .i64 ((↑(((get s0.1 ((wr .i64 ((↑s0.2.2:Int)-1)).toNat)).t.args).length):Int)-1)),(wr .i64 ((↑s0.2.2:Int)-1)).toNat)) (U2 s0)
def C9(n:Nat)(s0:(List y4)×Int×Nat)(j4:Int):Option (Ctl (x6) ((List y4)×Int×Nat) (Unit)):=
 bif (!decide (j4=0))then
  some (.ret (x6.mk j4 s0.2.1))
 else
  bif (decide (((get s0.1 ((wr .i64 ((↑s0.2.2:Int)-1)).toNat)).t.kind)=3))then
   J5 n s0 (wr .i64 (((get s0.1 ((wr .i64 ((↑s0.2.2:Int)-1)).toNat)).bound)+1))
  else
   J5 n s0 ((get s0.1 ((wr .i64 ((↑s0.2.2:Int)-1)).toNat)).bound)
def C7(n:Nat)(s0:(List y4)×Int×Nat):Option (Ctl (x6) ((List y4)×Int×Nat) (Unit)):=
 bif (decide (0<(↑s0.2.2:Int)))then
  chk (s0.2.2≤s0.1.length) <|
  chk (0≤(wr .i64 ((↑s0.2.2:Int)-1))∧(wr .i64 ((↑s0.2.2:Int)-1))<(↑s0.2.2:Int)) <|
  chk ((wr .i64 ((↑s0.2.2:Int)-1)).toNat≤s0.2.2) <|
  bif (bif (decide (200≤s0.2.1))then true else(decide (40<((get s0.1 ((wr .i64 ((↑s0.2.2:Int)-1)).toNat)).depth))))then
   C9 n s0 1
  else
   bif (bif (decide (((get s0.1 ((wr .i64 ((↑s0.2.2:Int)-1)).toNat)).t.kind)<1))then true else(decide (4<((get s0.1 ((wr .i64 ((↑s0.2.2:Int)-1)).toNat)).t.kind))))then
    C9 n s0 4
   else
    chk (0≤(get s0.1 ((wr .i64 ((↑s0.2.2:Int)-1)).toNat)).t.kind∧(get s0.1 ((wr .i64 ((↑s0.2.2:Int)-1)).toNat)).t.kind<5) <|
    (gd ((bif (bif (decide ((↑(((get s0.1 ((wr .i64 ((↑s0.2.2:Int)-1)).toNat)).t.args).length):Int)=(get [0,0,0,1,2] (((get s0.1 ((wr .i64 ((↑s0.2.2:Int)-1)).toNat)).t.kind).toNat))))then(bif (decide (((get s0.1 ((wr .i64 ((↑s0.2.2:Int)-1)).toNat)).t.kind)=1))then true else(decide (((get s0.1 ((wr .i64 ((↑s0.2.2:Int)-1)).toNat)).t.name)=[])))else false)then(bif (decide (((get s0.1 ((wr .i64 ((↑s0.2.2:Int)-1)).toNat)).t.kind)=2))then true else(decide (((get s0.1 ((wr .i64 ((↑s0.2.2:Int)-1)).toNat)).t.index)=0)))else false)&&(!(bif (decide (((get s0.1 ((wr .i64 ((↑s0.2.2:Int)-1)).toNat)).t.kind)=1))then true else(decide (((get s0.1 ((wr .i64 ((↑s0.2.2:Int)-1)).toNat)).t.kind)=3))))) (W7 ((get s0.1 ((wr .i64 ((↑s0.2.2:Int)-1)).toNat)).t.type)) default).bind fun v41=>
    bif (!(bif (bif (bif (decide ((↑(((get s0.1 ((wr .i64 ((↑s0.2.2:Int)-1)).toNat)).t.args).length):Int)=(get [0,0,0,1,2] (((get s0.1 ((wr .i64 ((↑s0.2.2:Int)-1)).toNat)).t.kind).toNat))))then(bif (decide (((get s0.1 ((wr .i64 ((↑s0.2.2:Int)-1)).toNat)).t.kind)=1))then true else(decide (((get s0.1 ((wr .i64 ((↑s0.2.2:Int)-1)).toNat)).t.name)=[])))else false)then(bif (decide (((get s0.1 ((wr .i64 ((↑s0.2.2:Int)-1)).toNat)).t.kind)=2))then true else(decide (((get s0.1 ((wr .i64 ((↑s0.2.2:Int)-1)).toNat)).t.index)=0)))else false)then(bif (bif (decide (((get s0.1 ((wr .i64 ((↑s0.2.2:Int)-1)).toNat)).t.kind)=1))then true else(decide (((get s0.1 ((wr .i64 ((↑s0.2.2:Int)-1)).toNat)).t.kind)=3)))then true else v41)else false))then
     C9 n s0 5
    else
     (gd (decide (((get s0.1 ((wr .i64 ((↑s0.2.2:Int)-1)).toNat)).t.kind)=1)) (aJ n ((get s0.1 ((wr .i64 ((↑s0.2.2:Int)-1)).toNat)).t.name)) default).bind fun v42=>
     bif (bif (decide (((get s0.1 ((wr .i64 ((↑s0.2.2:Int)-1)).toNat)).t.kind)=1))then(!v42)else false)then
      C9 n s0 10
     else
      (gd (bif (decide (((get s0.1 ((wr .i64 ((↑s0.2.2:Int)-1)).toNat)).t.kind)=1))then true else(decide (((get s0.1 ((wr .i64 ((↑s0.2.2:Int)-1)).toNat)).t.kind)=3))) (O5 n ((get s0.1 ((wr .i64 ((↑s0.2.2:Int)-1)).toNat)).t.type)) default).bind fun v43=>
      bif (bif (bif (decide (((get s0.1 ((wr .i64 ((↑s0.2.2:Int)-1)).toNat)).t.kind)=1))then true else(decide (((get s0.1 ((wr .i64 ((↑s0.2.2:Int)-1)).toNat)).t.kind)=3)))then(!decide (v43=0))else false)then
       C9 n s0 12
      else
       bif (bif (decide (((get s0.1 ((wr .i64 ((↑s0.2.2:Int)-1)).toNat)).t.kind)=2))then(bif (decide (((get s0.1 ((wr .i64 ((↑s0.2.2:Int)-1)).toNat)).t.index)<0))then true else(decide (((get s0.1 ((wr .i64 ((↑s0.2.2:Int)-1)).toNat)).bound)≤((get s0.1 ((wr .i64 ((↑s0.2.2:Int)-1)).toNat)).t.index))))else false)then
        C9 n s0 15
       else
        C9 n s0 0
 else
  some (.brk ())
def U4(n:Nat)(a0:w6)(t0:Unit):Option (x6):=
 (W8 n a0).bind fun v62=>
 bif (!v62.2)then
  some (x6.mk 12 (-1))
 else
  some (x6.mk 0 0)
def R3(n:Nat)(a0:w6):Option (x6):=
 C2 (V2 (C7 n) n ([(y4.mk a0 1 0)],0,1)) (U4 n a0)
def J7(n:Nat)(a0:w6):Option (x6):=
 (R3 n a0).bind fun v1=>
 some v1
def G6(a1:w4)(k0:Nat)(s0:Unit):Option (Ctl (Int) (Unit) (Unit)):=
 (W6 a1.graph 0 (↑k0:Int)).bind fun v2=>
 bif (!decide ((decide (0≤v2))=(decide ((↑k0:Int)≤a1.kids))))then
  some (.ret 5)
 else
  some (.nxt ())
def U5(n:Nat)(a1:w4)(t0:Unit):Option (Int):=
 (J7 n a1.meaning).bind fun v3=>
 some v3.code
def R4(n:Nat)(a0:w5)(a1:w4):Option (Int):=
 bif (bif (bif (bif (decide (a1.kids<1))then true else(decide (3<a1.kids)))then true else(decide (a1.weight<0)))then true else(decide (1000000<a1.weight)))then
  some 3
 else
  (G8 n a0 a1.graph).bind fun v1=>
  bif (!decide (v1.code=0))then
   some v1.code
  else
   C2 (D1 (G6 a1) 4 ()) (U5 n a1)
def D9(j0:Int×Int×Int)(a0:Bs)(s1:Int×Int):Option (Ctl (Int) (Int×Int) (Int)):=
 bif (decide (s1.2<j0.1))then
  chk (0≤s1.2∧s1.2<(↑a0.length:Int)) <|
  bif (bif (decide ((B2 a0 s1.2)<128))then true else(decide (191<(B2 a0 s1.2))))then
   some (.ret 0)
  else
   some (.nxt ((wr .i64 ((wr .i64 ((wr .i64 (64*s1.1))+(wr .i64 (B2 a0 s1.2))))-128)),(wr .i64 (s1.2+1))))
 else
  some (.brk s1.1)
def S9(j0:Int×Int×Int)(t1:Int):Option (Int):=
 bif (bif (bif (decide (t1<j0.2.1))then true else(decide (1114111<t1)))then true else(bif (decide (55296≤t1))then(decide (t1≤57343))else false))then
  some 0
 else
  some j0.1
def E3(n:Nat)(a0:Bs)(j0:Int×Int×Int):Option (Int):=
 bif (decide ((↑a0.length:Int)<j0.1))then
  some 0
 else
  C2 (V2 (D9 j0 a0) n (j0.2.2,1)) (S9 j0)
def P6(n:Nat)(a0:Bs):Option (Int):=
 chk (0<(↑a0.length:Int)) <|
 bif (decide ((B2 a0 0)<128))then
  some 1
 else
  bif (bif (decide (194≤(B2 a0 0)))then(decide ((B2 a0 0)≤223))else false)then
   E3 n a0 (2,128,(wr .i64 ((wr .i64 (B2 a0 0))-192)))
  else
   bif (bif (decide (224≤(B2 a0 0)))then(decide ((B2 a0 0)≤239))else false)then
    E3 n a0 (3,2048,(wr .i64 ((wr .i64 (B2 a0 0))-224)))
   else
    bif (bif (decide (240≤(B2 a0 0)))then(decide ((B2 a0 0)≤244))else false)then
     E3 n a0 (4,65536,(wr .i64 ((wr .i64 (B2 a0 0))-240)))
    else
     some 0
def aY(a0:Bs)(s0:Nat×Int):Option (Ctl (Bool) (Nat×Int) (Int)):=
 bif (decide (s0.1<a0.length))then
  chk (s0.1<a0.length) <|
  bif (bif (bif (bif (bif (bif (bif (bif (bif (decide ((rune a0 s0.1)=32))then true else(decide ((rune a0 s0.1)=9)))then true else(decide ((rune a0 s0.1)=10)))then true else(decide ((rune a0 s0.1)=40)))then true else(decide ((rune a0 s0.1)=41)))then true else(decide ((rune a0 s0.1)=91)))then true else(decide ((rune a0 s0.1)=93)))then true else(decide ((rune a0 s0.1)=44)))then true else(decide ((rune a0 s0.1)=59)))then
   some (.ret false)
  else
   some (.nxt ((s0.1+jB a0 s0.1),(wr .i64 (s0.2+1))))
 else
  some (.brk s0.2)
def bf(n:Nat)(a0:Bs)(s1:Int):Option (Ctl (Bool) (Int) (Unit)):=
 bif (decide (s1<(↑a0.length:Int)))then
  chk (0≤s1∧s1.toNat≤a0.length) <|
  (P6 n (a0.drop s1.toNat)).bind fun v8=>
  bif (decide (v8=0))then
   some (.ret false)
  else
   some (.nxt (wr .i64 (s1+v8)))
 else
  some (.brk ())
def eC(t1:Unit):Option (Bool):=
 some true
def aZ(n:Nat)(a0:Bs)(t0:Int):Option (Bool):=
 bif (bif (decide (t0<1))then true else(decide (30<t0)))then
  some false
 else
  C2 (V2 (bf n a0) n 0) (eC)
def aM(n:Nat)(a0:Bs):Option (Bool):=
 C2 (V2 (aY a0) n (0,0)) (aZ n a0)
def U6(n:Nat)(a0:w5)(a1:x7):Option (Int):=
 (aM n a1.word).bind fun v1=>
 bif (!v1)then
  some 10
 else
  bif (bif (decide (a1.weight<0))then true else(decide (1000000<a1.weight)))then
   some 3
  else
   (G8 n a0 a1.graph).bind fun v2=>
   bif (!decide (v2.code=0))then
    some v2.code
   else
    (J7 n a1.meaning).bind fun v3=>
    some v3.code
def K7(a0:x9)(k0:Nat)(k1:Nat)(s1:Unit):Option (Ctl (Ctl (x6) (Unit) (Unit)) (Unit) (Unit)):=
 bif (decide (((get (a0.rules.take k0) k1).name)=((get a0.rules k0).name)))then
  some (.ret (.ret (x6.mk 7 (↑k0:Int))))
 else
  some (.nxt ())
def O8(n:Nat)(a0:x9)(k0:Nat)(t1:Unit):Option (Ctl (x6) (Unit) (Unit)):=
 (R4 n a0.hierarchy (get a0.rules k0)).bind fun v5=>
 bif (!decide (v5=0))then
  some (.ret (x6.mk v5 (↑k0:Int)))
 else
  some (.nxt ())
def O7(n:Nat)(a0:x9)(k0:Nat)(s0:Unit):Option (Ctl (x6) (Unit) (Unit)):=
 (R0 ((get a0.rules k0).name)).bind fun v2=>
 bif (!v2)then
  some (.ret (x6.mk 10 (↑k0:Int)))
 else
  chk (0≤(↑k0:Int)∧k0≤a0.rules.length) <|
  C2 (D1 (K7 a0 k0) ((a0.rules.take k0).length) ()) (O8 n a0 k0)
def P0(n:Nat)(a0:x9)(k2:Nat)(s2:Unit):Option (Ctl (x6) (Unit) (Unit)):=
 (U6 n a0.hierarchy (get a0.y9 k2)).bind fun v6=>
 bif (!decide (v6=0))then
  some (.ret (x6.mk v6 (↑k2:Int)))
 else
  some (.nxt ())
def P1(n:Nat)(a0:x9)(t2:Unit):Option (x6):=
 (G8 n a0.hierarchy a0.start).bind fun v7=>
 bif (!decide (v7.code=0))then
  some (x6.mk v7.code (-1))
 else
  some (x6.mk 0 0)
def O9(n:Nat)(a0:x9)(t0:Unit):Option (x6):=
 C2 (D1 (P0 n a0) a0.y9.length ()) (P1 n a0)
def J8(n:Nat)(a0:x9):Option (x6):=
 (L2 n a0.hierarchy).bind fun v1=>
 bif (!decide (v1.code=0))then
  some v1
 else
  bif (decide ((↑a0.hierarchy.B1.length:Int)≤3))then
   some (x6.mk 9 (-1))
  else
   bif (bif (decide (40<(↑a0.rules.length:Int)))then true else(decide (100<(↑a0.y9.length:Int))))then
    some (x6.mk 2 (-1))
   else
    C2 (D1 (O7 n a0) a0.rules.length ()) (O9 n a0)
def Y1(n:Nat)(a0:x9)(a1:x9):Option (x6):=
 (J8 n a0).bind fun v1=>
 bif (!decide (v1.code=0))then
  some v1
 else
  (J8 n a1).bind fun v2=>
  some v2
def Y2(a0:B4):Option (Bool):=
 some (bif (bif (bif (decide ((↑a0.hierarchy.length:Int)=0))then(decide ((↑a0.start.length:Int)=0))else false)then(decide ((↑a0.rules.length:Int)=0))else false)then(decide ((↑a0.y9.length:Int)=0))else false)
def G9(a1:Int)(s0:(List Int)×Int):Option (Ctl (Int) ((List Int)×Int) ((List Int))):=
 bif (decide (s0.2≤a1))then
  cW (s0.1++[s0.2]) fun c14=>
  chk (c14.length*8≤top∧c14.length≤top) <|
  some (.nxt (c14,(wr .i64 (s0.2+1))))
 else
  some (.brk s0.1)
def K8(s1:(List Int)×Int)(a2:(List (List Bool)))(s6:(List Int)×Int)(j9:Int):Option (Ctl (Ctl (Int) ((List Int)×Int) ((List Int))) ((List Int)×Int) ((List Int))):=
 chk (0≤(wr .i64 (s1.2-1))∧(wr .i64 (s1.2-1))<(↑a2.length:Int)) <|
 chk ((wr .i64 (s6.2-1))<(↑((get a2 ((wr .i64 (s1.2-1)).toNat)).length):Int)) <|
 chk (cX (get (get a2 ((wr .i64 (s1.2-1)).toNat)) ((wr .i64 (s6.2-1)).toNat)) ((wr .i64 (s6.2-1))<(↑s1.1.length:Int))) <|
 bif (bif (get (get a2 ((wr .i64 (s1.2-1)).toNat)) ((wr .i64 (s6.2-1)).toNat))then(decide ((get s1.1 ((wr .i64 (s6.2-1)).toNat))<j9))else false)then
  chk ((wr .i64 (s6.2-1))<(↑s1.1.length:Int)) <|
  cW (s6.1++[(get s1.1 ((wr .i64 (s6.2-1)).toNat))]) fun c181=>
  chk (c181.length*8≤top∧c181.length≤top) <|
  some (.nxt (c181,(wr .i64 (s6.2+1))))
 else
  cW (s6.1++[j9]) fun c187=>
  chk (c187.length*8≤top∧c187.length≤top) <|
  some (.nxt (c187,(wr .i64 (s6.2+1))))
def H6(a1:Int)(s1:(List Int)×Int)(a2:(List (List Bool)))(s6:(List Int)×Int):Option (Ctl (Ctl (Int) ((List Int)×Int) ((List Int))) ((List Int)×Int) ((List Int))):=
 bif (decide (s6.2≤a1))then
  chk (0≤s6.2∧s6.2<(↑s1.1.length:Int)) <|
  chk (0≤(wr .i64 (s6.2-1))∧(wr .i64 (s6.2-1))<(↑s6.1.length:Int)) <|
  bif (decide ((wr .i64 ((get s6.1 ((wr .i64 (s6.2-1)).toNat))+1))<(wr .i64 ((get s1.1 s6.2.toNat)+1))))then
   K8 s1 a2 s6 (wr .i64 ((get s6.1 ((wr .i64 (s6.2-1)).toNat))+1))
  else
   K8 s1 a2 s6 (wr .i64 ((get s1.1 s6.2.toNat)+1))
 else
  some (.brk s6.1)
def V4(s1:(List Int)×Int)(t6:(List Int)):Option (Ctl (Int) ((List Int)×Int) ((List Int))):=
 some (.nxt (t6,(wr .i64 (s1.2+1))))
def K9(n:Nat)(a0:Int)(a1:Int)(a2:(List (List Bool)))(s1:(List Int)×Int):Option (Ctl (Int) ((List Int)×Int) ((List Int))):=
 bif (decide (s1.2≤a0))then
  C2 (V2 (H6 a1 s1 a2) n ([s1.2],1)) (V4 s1)
 else
  some (.brk s1.1)
def V5(a1:Int)(t1:(List Int)):Option (Int):=
 chk (0≤a1∧a1<(↑t1.length:Int)) <|
 some (get t1 a1.toNat)
def V3(n:Nat)(a0:Int)(a1:Int)(a2:(List (List Bool)))(t0:(List Int)):Option (Int):=
 C2 (V2 (K9 n a0 a1 a2) n (t0,1)) (V5 a1)
def O2(n:Nat)(a0:Int)(a1:Int)(a2:(List (List Bool))):Option (Int):=
 C2 (V2 (G9 a1) n ([],0)) (V3 n a0 a1 a2)
def lA(n:Nat)(a0 a1:List w4):Option (List (List Bool)):=
 chk (a0.length*24≤top∧a0.length≤9223372036854775807∧a1.length≤1048576) <|
 chk (((List.range a0.length).all fun i=>(List.range a1.length).all fun j=>(E6 n [Am.get a0 i] [Am.get a1 j]).isSome)=true) <|
 some (tf a0.length a1.length fun(i j:Nat)=>(E6 n [Am.get a0 i] [Am.get a1 j]).getD false)
def nF(n:Nat)(a0 a1:List x7):Option (List (List Bool)):=
 chk (a0.length*24≤top∧a0.length≤9223372036854775807∧a1.length≤1048576) <|
 chk (((List.range a0.length).all fun i=>(List.range a1.length).all fun j=>(F5 n (Am.get a0 i) (Am.get a1 j)).isSome)=true) <|
 some (tf a0.length a1.length fun(i j:Nat)=>(F5 n (Am.get a0 i) (Am.get a1 j)).getD false)
def F3(n:Nat)(a0:x9)(a1:x9)(j1:Int):Option (Int):=
 (lA n a0.rules a1.rules).bind fun v3=>
 (nF n a0.y9 a1.y9).bind fun v4=>
 (O2 n (↑a0.rules.length:Int) (↑a1.rules.length:Int) v3).bind fun v5=>
 (O2 n (↑a0.y9.length:Int) (↑a1.y9.length:Int) v4).bind fun v6=>
 some (wr .i64 ((wr .i64 (j1+v5))+v6))
def F4(n:Nat)(a0:x9)(a1:x9)(j0:Int):Option (Int):=
 (I0 a0.start a1.start).bind fun v2=>
 bif (!v2)then
  F3 n a0 a1 (wr .i64 (j0+1))
 else
  F3 n a0 a1 j0
def G7(n:Nat)(a0:x9)(a1:x9):Option (Int):=
 (J9 a0.hierarchy a1.hierarchy).bind fun v1=>
 bif (!v1)then
  F4 n a0 a1 (wr .i64 (0+1))
 else
  F4 n a0 a1 0
def V6(n:Nat)(a0:x9)(a1:x9):Option (Bool):=
 (S0 n).bind fun v1=>
 bif (!v1)then
  some false
 else
  (iz n a0 a1).bind fun v2=>
  (Y1 n a0 a1).bind fun v3=>
  bif (!decide (v3.code=0))then
   (gd (decide (v2.2.code=v3.code)&&(decide (v2.2.index=v3.index))) (Y2 v2.1) default).bind fun v4=>
   some (bif (decide (v2.2.code=v3.code)&&(decide (v2.2.index=v3.index)))then v4 else false)
  else
   bif (!decide (v2.2.code=0))then
    some false
   else
    (og v2.1).bind fun v5=>
    (ly n a0 v2.1).bind fun v6=>
    (gd (bif (decide (v5.2.code=0))then(decide (v6.2.code=0))else false) (G7 n a0 a1) default).bind fun v7=>
    (gd (bif (bif (decide (v5.2.code=0))then(decide (v6.2.code=0))else false)then(decide (v5.1=v7))else false) (K0 n v6.1 a1) default).bind fun v8=>
    some (bif (bif (bif (decide (v5.2.code=0))then(decide (v6.2.code=0))else false)then(decide (v5.1=v7))else false)then v8 else false)
end Go.Proofs.YtonfgoanbllceaaGreatDoor
